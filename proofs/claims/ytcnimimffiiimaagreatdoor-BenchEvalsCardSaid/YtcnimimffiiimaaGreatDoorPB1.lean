/- The tables: each function of the program is the code that stands here; no condition. -/
import Derived.Test.YtcnimimffiiimaaGreatDoorPB0
import Derived.KernelRfl
import Derived.Test.YtcnimimffiiimaaGreatDoorProg
set_option linter.all false
namespace Go.Proofs.YtcnimimffiiimaaGreatDoor.TT
open Go Go.AM
set_option maxRecDepth 100000
noncomputable section
def f3:M9:=⟨false,[some 0],7,[.tmp 6],j3 zdi (j3 (j3 (j4 (u7 (y8 6 [aS]) zgf)) (o8 au (j3 (j4 (u7 zgt RN)) p9) y7)) (j3 (j4 (u7 (y8 8 [aS]) (j5 zip (j5 Gl (D9 uF uE (D9 uF nM j6)))))) (j3 (j4 (u7 (y8 9 [aS]) zJ)) (j3 (j3 (j4 (D9 (I5 zR zS iK lT) kY j6)) (o8 fU (j3 (j4 (u7 zgt (j5 zdY (j5 zeA (j5 zeG (j5 IZ (j5 zcC (j5 (gP ay true wK) (j5 (gP aH true za7) (j5 IZ RN)))))))))) p9) y7)) (j3 (j4 (u7 zgt (j5 zdY (j5 zb6 (j5 Yt (j5 zcC (j5 zhV (u7 (gE aH true (y8 11 [A8])) (u7 (gE lD true (y8 10 [aH,A8])) (j5 zdr RN)))))))))) p9))))),none⟩
theorem is3:P6 3 f3:=L9 [0,8,5,18,4,3,2]
def f4:M9:=⟨false,[some 0,some 2],9,[.tmp 8],j3 zeW (j3 (j3 (j4 (u6 Jv (u7 (y8 12 [A8,zef,qN]) (j5 (I5 Es Fe A8 zef) (j5 ziV (j5 (gP ay false wK) (j5 (gP aH false (I5 Es Fe A8 (C9 (d9.int .i64 (Int.ofNat 30))))) zjc))))))) (o8 fU (j3 (j4 (u7 zgt Ve)) p9) y7)) (j3 (j4 (u6 Jv (u7 (y8 13 [A8,iK]) (j5 zip (j5 Gl (D9 uF nM (D9 uF uO j6))))))) (j3 (j4 (u6 Jv (u7 (y8 14 [A8,iK]) (j5 zip (j5 Gl (D9 uF uE zha)))))) (j3 (j4 (u7 zgt (j5 zdY (j5 zg7 (j5 zeG (j5 IZ (j5 zcD (j5 (gP ay true zi5) (j5 zeG (j5 IZ Ve)))))))))) p9)))),none⟩
theorem is4:P6 4 f4:=L9 [0,2,1,16,5,7,6,8,4]
def amW:SC:=j3 (j3 (j4 (j5 zeS (j5 zhJ (u6 I7 (j5 wK (D9 (I5 wP wU ji A8) uO j6)))))) (o8 rH y7 zhK)) (j3 (w9 3 (j4 (j5 zeS (j5 zhJ (u6 I7 (j5 (O9 4 A8 ji) zeX)))))) (j4 (j5 EX (j5 zag DL))))
def amX:SC:=j3 zcZ (j3 (w9 1 (j3 (j4 (j5 zeS zeX)) (j3 za3 (w9 2 (I9 amW))))) zbt)
def f5:M9:=⟨false,[some 0],13,[.tmp 12],j3 (j4 (D9 SE Vf j6)) (j3 (j3 (j4 (u7 (y8 6 [aS]) (j5 BH (j5 WK (u7 (gE ay false (y8 15 [A8])) (j5 (gP aH false ziK) (D9 SA oZ j6))))))) (o8 au (j3 (j4 (u7 zgt zbT)) p9) y7)) (j3 (j4 (u7 (y8 16 [aS]) (j5 zip (j5 Gl (D9 uF DK zha))))) (j3 (j4 (u7 (y8 8 [aS]) (j5 zip (j5 Gl (D9 uF kY zhb))))) (j3 (j3 WM (w9 0 (I9 amX))) (j3 (j4 (u7 (y8 16 [aS]) (j5 zip (j5 Gl (D9 uF Od (D9 uF BG j6)))))) (j3 (j4 (u7 zgt (j5 (gP A8 true zi5) (j5 zb6 (j5 Yt (j5 (gP A8 true zdc) (j5 zb6 (j5 Yt (j5 (gP A8 true Ob) (j5 zb6 (j5 Yt (j5 (gP A8 true zdd) (j5 (gP ay true zhP) (j5 zeG (j5 IZ zbT))))))))))))))) p9)))))),none⟩
theorem is5:P6 5 f5:=L9 [0,18,7,5,33,8,47,4,6,10,3,9,2]
def f6:M9:=⟨false,[some 0],2,[.tmp 1],j3 zbx (j3 (j4 (j5 (vN aS) (j5 (I5 MB OA A8 (C9 (d9.int .i64 (Int.ofNat 520)))) (j5 zit (u7 (gE ay true (y8 17 [A8,zef,qN])) (j5 (gP aH true (I5 MB OA A8 zef)) (j5 IZ NZ))))))) p9),none⟩
theorem is6:P6 6 f6:=L9 [0,2]
def f8:M9:=⟨false,[some 0],5,[.tmp 3,.tmp 4],j3 (j4 (D9 Yz kY zaA)) (j3 (j3 (j4 (u7 (y8 15 [aS]) NZ)) (j3 zb0 (o8 iK (j3 (j4 (D9 Yz kY zgH)) p9) y7))) (j3 (j4 (u7 (y8 22 [aS]) zbU)) p9)),none⟩
theorem is8:P6 8 f8:=L9 [0,4,8,2,3]
def f9:M9:=⟨false,[some 0],5,[.tmp 4],j3 zby (j3 (j4 (u7 (y8 23 [aS]) zfs)) (j3 zcj (j3 (j3 (j4 (u7 (y8 24 [aS]) zhC)) zdE) (j3 (j4 (u7 (y8 25 [aS,C9 Z]) WL)) p9)))),none⟩
theorem is9:P6 9 f9:=L9 [0,3,11,14,2]
def agv:SC:=j3 zc3 (j3 (w9 1 (j3 (j4 (j5 (O9 5 aS fU) zdC)) (j3 (j4 (j5 (O9 5 au fU) zdD)) (j3 (j4 (j5 zhW (u6 I7 (j5 zcS (u6 I7 (j5 zhl (j5 (gP A8 false zhX) (u6 DJ (j5 (gP aH false Yw) (u6 ze7 (j5 (gP zK false zhl) (j5 (bZ DN RJ A8) (j5 (gP A8 false zcB) (u6 DJ (j5 (gP aH false zcT) (u6 ze7 (u7 (gE zK false (y8 26 [aH,A8])) (j5 zgg (j5 zgh (j5 (gP A8 false WT) (u6 DJ (j5 (gP aH false zd6) (u6 ze7 (u7 zhc (j5 zgg (j5 zgh (j5 (gP A8 false Yx) (u6 DJ (j5 (gP aH false zf5) (u6 ze7 (u7 zhc (j5 zgg (D9 zgh wJ j6))))))))))))))))))))))))))))))))) (o8 qY zfy y7))))) zbo)
def f10:M9:=⟨false,[some 0,some 1],9,[.tmp 8],j3 zek (j3 (j3 zel (o8 iK zfy y7)) (j3 (j3 zbz (w9 0 (I9 agv))) (j3 (j4 (D9 ziW yH j6)) p9))),none⟩
theorem amY:P6 10 f10:=L9 [0,1,12,5,16,6,7,62,4]
def agw:SC:=j3 zaK (j3 (w9 1 (j3 (j4 (j5 zeq (u6 YA (fq zbv kY zcA)))) (Y0 1 (O4 zf6 C8 (fD I7 0 C8 (pz (y8 27 [A8]) (aF zf7 false C8 (uJ I7 1 false C8 (rA C8 (aF zf8 false C8 (uJ I7 2 false C8 (rA C8 (aF MK false C8 (aF zcU false C8 (uJ I7 3 false C8 (aF zdj false C8 (uJ I7 3 false C8 (fV C8 (ghA zbS 0 C8 (rA C8 (fV nM aU))))))))))))))) C8 (O4 zf7 C8 (fD I7 1 C8 (pz (y8 11 [A8]) (aF zf8 false C8 (uJ I7 2 false C8 (rA C8 (aF MK false C8 (aF zcU false C8 (uJ I7 3 false C8 (aF zdj false C8 (uJ I7 3 false C8 (fV C8 (ghA zbS 0 C8 (rA C8 (fV nM aU)))))))))))) C8 (O4 zf8 C8 (fD I7 2 C8 (pz (y8 11 [A8]) (aF MK false C8 (aF zcU false C8 (uJ I7 3 false C8 (aF zdj false C8 (uJ I7 3 false C8 (fV C8 (ghA zbS 0 C8 (rA C8 (fV nM aU))))))))) C8 (O4 MK C8 (O4 zcU C8 (fD I7 3 C8 (O4 zdj C8 (fD I7 3 C8 (O4 (Q5 za5 [(0,1,aH),(1,1,A8),(2,1,X9 11),(3,1,RL),(4,1,DN)]) C8 (dcL zbS 0 C8 (pz (oK 5 96 LB A8) MF C8 (O4 oF nM kg))))))))))))))))))))) zaI)
def f11:M9:=⟨false,[some 1],6,[.tmp 5],j3 zeM (j3 zgF (j3 (j3 zbj (w9 0 (I9 agw))) zfe)),none⟩
theorem amZ:P6 11 f11:=L9 [4,0,9,5,3,2]
def Gm:SC:=j3 (j3 (j4 (j5 WT (u6 I7 (j5 wK (j5 zfn (j5 zcD (j5 (gP ay true Oc) (j5 zfM zgj)))))))) zgu) (j3 (w9 1 (j4 (j5 WR (j5 WT (u6 I7 (j5 zhD (u6 uP (j5 WR (j5 (I5 qZ iP fU A8) (j5 ziQ (u7 (y8 12 [lD,ay,A8]) (j5 (I5 aV aY RL A8) RN)))))))))))) zbW)
def f12:M9:=⟨false,[some 0,some 3,some 1],9,[.tmp 8],j3 (j4 (fq Bj uE zfh)) (j3 (j4 (D9 Yr uO j6)) (j3 (j3 (j4 (D9 (I5 Es Fe au zho) oG j6)) (o8 iK (j3 (j4 (j5 zfi Ve)) p9) y7)) (j3 (j3 zby (w9 0 (I9 Gm))) (j3 (j4 (D9 WR yH j6)) p9)))),none⟩
theorem an0:P6 12 f12:=L9 [0,2,10,1,8,3,7,22,6]
def f13:M9:=⟨false,[some 0,some 4],19,[.tmp 17,.tmp 18],j3 (j4 (fq Bj oZ (D9 qd Va (D9 qd (sR yH) j6)))) (j3 (j3 (j4 (u6 Jv (u7 (y8 28 [A8,zhp]) zcn))) (j3 zbF (o8 fU (j3 (j4 (D9 qd Va (D9 (J8 Ay) (sR yH) j6))) p9) y7))) (j3 (j3 (j4 (u6 Jv (u7 (y8 29 [A8]) (j5 BH (j5 (gP A8 false MK) (u7 (gE ay false (y8 30 [A8,C9 (.func (.func 31) [] [])])) (D9 ziB uE j6))))))) (o8 ji zcN y7)) (j3 (j4 (gX fM (fq (iQ [d9.nilMap]) yH zf9))) (j3 (j3 (j4 (MC (y8 33 [jB]) uO j6)) (w9 0 (Hf rH [none,some 7] (.reg [⟨.a (.alloc [UR,nG]),some 9,none⟩,⟨.e (.store 2 (.loc 0) (.slot 7)),none,none⟩]) (.block 1 (.reg [⟨.r (.load none (.slot 8)),none,none⟩,⟨.p (.fAddr 0 (.slot 9)),none,none⟩,⟨.r (.load none (.loc 0)),none,none⟩,⟨.p (.fAddr 1 (.slot 9)),none,none⟩,⟨.r (.load none (.loc 0)),none,none⟩,⟨.e (.mapSet (.prim .s) (.loc 4) (.loc 2) (.loc 0)),none,none⟩]))))) (j3 (j4 (fq (iQ [ff]) DK (fq (iQ [ff]) Od (u7 (K7 1 ay Pq) (u7 (K7 1 ay Pq) j6))))) (j3 (j4 (u6 Jv (j5 (uR (.func 35) [] [Az,MJ,Pv]) (u7 (y8 34 [ay,A8]) j6)))) (j3 (j3 (j4 (Xg (eB MJ) Vf j6)) (o8 Vg zcN y7)) (j3 (j3 (j4 (Xg (eB Pv) RP j6)) (o8 Vh (j3 (j4 (D9 qd Va (D9 zbl (sR yH) j6))) p9) y7)) (j3 (j4 (fq (iQ [nG]) zec zdI)) (j3 (j4 (j5 (uR (.func 36) [] [Az]) (j5 (uR (.func 37) [] [WS]) (j5 (Q5 zhd [(0,1,ay),(2,1,A8)]) (fq (iQ zhd) Jt (u7 (K7 3 A8 ay) j6)))))) (j3 (j4 (u6 (aD 3 zcE) (u6 Jv (u7 (y8 38 [ay,A8]) zgO)))) (j3 (Y0 0 (O4 (J8 zed) C8 (fD (eB WS) 0 C8 (O4 uF Va (O4 uF (sR yH) kg))))) p9)))))))))))),none⟩
theorem an1:P6 13 f13:=L9 [0,2,6,24,1,31,34,36,7,9,10,11,45,46,12,13,14,4,5]
def Gn:SC:=j3 (j3 (j4 (j5 (vN ji) (D9 zfn uO j6))) zgI) (j3 (w9 1 (j4 (j5 zi5 (j5 zcC (j5 (gP ay true MK) (j5 (gP aH true (O9 2 ay A8)) (j5 (gP lD true RS) (u6 zde (u7 (gE DN true (y8 42 [A8])) (j5 zds SG)))))))))) zbW)
def f14:M9:=⟨false,[some 0,some 5],12,[.tmp 10,.tmp 11],j3 (j4 (fq Bj oZ (D9 qd DK (D9 qd Od j6)))) (j3 (j4 (u6 Jv (u7 (y8 39 [A8,qN]) zcn))) (j3 (j3 zbF (o8 fU (j3 (j4 (D9 qd DK (D9 (J8 Ay) Od j6))) p9) y7)) (j3 (j4 (u6 Jv (u7 (y8 40 [A8]) (u6 (ME A8 true Jv) (u7 (gE ay true (y8 41 [A8])) (j5 (gP aH true BH) (j5 IZ SG))))))) (j3 (j3 zby (w9 0 (I9 Gn))) (j3 (j3 (j4 (D9 (MQ qY) yH j6)) (o8 Az (j3 (j4 (D9 qd DK (D9 Yr Od j6))) p9) y7)) (j3 (j3 (j4 (u6 Jv (u7 (y8 43 [A8,ji]) (D9 BH BG j6)))) (o8 En (j3 (j4 (D9 qd DK (D9 zbl Od j6))) p9) y7)) (j3 (j4 (u6 Jv zcX)) p9))))))),none⟩
theorem an2:P6 14 f14:=L9 [0,2,6,18,8,1,29,7,42,46,4,5]
def f15:M9:=⟨true,[some 0],4,[.tmp 3],j3 zbz (j3 (j3 zfF (j3 zb0 (o8 iK (j3 (j4 (D9 RO kY j6)) p9) y7))) (j3 (j4 (u7 (y8 46 []) (j5 (Q5 [d9.nilMap] [(0,1,A8)]) (gX (JG A8) (u7 (y8 48 [zdV]) (u7 (y8 47 [ay,A8,aS]) Yq)))))) p9)),none⟩
theorem ac8:P6 15 f15:=isP [0,3,7,2]
def f16:M9:=⟨true,[some 0],5,[.tmp 3,.tmp 4],j3 (j4 (D9 zdQ kY zaA)) (j3 (j3 zfF (j3 zb0 (o8 iK (j3 (j4 (D9 zdQ kY zgH)) p9) y7))) (j3 (j4 (u7 (y8 49 [aS,lT]) zbU)) p9)),none⟩
theorem is16:P6 16 f16:=isP [0,4,8,2,3]
def agx:SC:=j3 (j3 (j4 (j5 zgv (j5 zhJ (u6 I7 (j5 wK (j5 (I5 wP wU qY A8) (j5 zcC (j5 zeA (j5 zfM (D9 IZ yH j6)))))))))) (o8 Az y7 zhK)) (j3 (w9 3 (j4 (j5 EX (j5 zgv (j5 zhJ (u6 I7 (j5 (O9 4 A8 qY) (u6 uP (j5 EX (j5 (I5 qZ iP iK A8) (j5 zdK (u7 (y8 12 [lD,ay,A8]) (j5 (I5 aV aY Yv A8) DL))))))))))))) zbQ)
def agy:SC:=j3 (j3 (j4 (j5 (vN jB) (j5 zjg (j5 zcC (j5 zeA (j5 zfM zgB)))))) zgI) (j3 (w9 1 (j3 (Y0 0 (O4 MK C8 (O4 Oc C8 (O4 zff C8 (O4 (H9 3 A8) C8 (fD I7 0 C8 (O4 Vb C8 (O4 EX C8 (O4 zgW C8 (O4 Ja C8 (O4 zag C8 (pz (y8 17 [DN,aH,A8]) (aF MK false C8 (aF Oc false C8 (aF zff false C8 (aF (H9 4 A8) false C8 (uJ I7 1 false C8 (aF Vb false C8 (aF EX false C8 (aF zgW false C8 (aF Ja false C8 (aF zag false C8 (rA C8 (aF EX false C8 (aF zag false C8 (aF MK false C8 (aF Oc false C8 (aF zff false C8 (aF RS false C8 (uJ I7 2 false C8 (aF zhQ false C8 (aF zd1 false C8 (aF zgw false C8 (fV C8 (fV C8 (fV uE aU)))))))))))))))))))))))) C8 (O4 MK C8 (O4 Oc C8 (O4 zff C8 (O4 (H9 4 A8) C8 (fD I7 1 C8 (O4 Vb C8 (O4 EX C8 (O4 zgW C8 (O4 Ja C8 (O4 zag C8 (pz (y8 17 [DN,aH,A8]) (aF EX false C8 (aF zag false C8 (aF MK false C8 (aF Oc false C8 (aF zff false C8 (aF RS false C8 (uJ I7 2 false C8 (aF zhQ false C8 (aF zd1 false C8 (aF zgw false C8 (aF (I5 aV aY A8 (X9 21)) false C8 (fV C8 (fV uE aU))))))))))))) C8 (O4 EX C8 (O4 zag C8 (O4 MK C8 (O4 Oc C8 (O4 zff C8 (O4 RS C8 (fD I7 2 C8 (O4 zhQ C8 (O4 zd1 C8 (O4 zgw C8 (O4 (I5 aV aY A8 (X9 21)) C8 (O4 (I5 aV aY A8 (X9 11)) C8 zhE))))))))))))))))))))))))))))))))))) (j3 Yu (w9 2 (I9 agx))))) zbo)
def f17:M9:=⟨false,[some 4,some 2,some 0],10,[.tmp 9],j3 zci (j3 za3 (j3 (j3 (j4 (D9 (I5 Es Fe aS zho) oZ j6)) (o8 au (j3 (j4 (j5 zdw zco)) p9) y7)) (j3 (j3 zbz (w9 0 (I9 agy))) (j3 (j4 (D9 EX BG j6)) p9)))),none⟩
theorem an3:P6 17 f17:=L9 [2,11,1,8,0,7,22,9,71,6]
def agz:SC:=j3 UZ (j3 Oa (j3 (w9 1 (j3 (j4 (j5 zeT zdC)) (j3 (Y0 0 (O4 zcB C8 (fD I7 0 C8 (pz (y8 55 [A8]) (aF WT false C8 (uJ I7 1 false C8 (rA C8 (aF Yx false C8 (uJ I7 2 false C8 (rA C8 (aF zcB false C8 (rA C8 (aF WT false C8 (rA C8 (aF Yx false C8 (rA C8 aU)))))))))))) C8 (O4 WT C8 (fD I7 1 C8 (pz (y8 22 [A8]) (aF Yx false C8 (uJ I7 2 false C8 (rA C8 (aF zcB false C8 (rA C8 (aF WT false C8 (rA C8 (aF Yx false C8 (rA C8 aU))))))))) C8 (O4 Yx C8 (fD I7 2 C8 (pz (y8 22 [A8]) (aF zcB false C8 (rA C8 (aF WT false C8 (rA C8 (aF Yx false C8 (rA C8 aU)))))) C8 (O4 zcB C8 (pz (K7 1 A8 MI) MF C8 (O4 WT C8 (pz (K7 1 A8 LB) MF C8 (O4 Yx C8 (pz (K7 1 A8 DN) MF C8 kg)))))))))))))))) (j4 (j5 WR (u6 (aD 5 ji) (gX zbS (u7 (oK 5 96 aH A8) RN)))))))) UU))
def f22:M9:=⟨false,[some 0],8,[.tmp 7],j3 zey (j3 (j4 (D9 Yz uO j6)) (j3 (j3 zaM (w9 0 (I9 agz))) (j3 (j4 (D9 WR wJ j6)) p9))),none⟩
theorem an4:P6 22 f22:=L9 [0,8,7,9,6,5,3,2]
def f23:M9:=⟨false,[some 0],5,[.tmp 3,.tmp 4],j3 zbq (j3 (j4 (u7 (y8 56 [aS,qN]) zd7)) zaP),none⟩
theorem an5:P6 23 f23:=L9 [0,4,14,2,3]
def agA:SC:=j3 zaK (j3 (w9 1 (j3 (j4 (j5 zeq (u6 YA (u7 (y8 57 [A8]) zhC)))) (o8 fU (j3 zeL p9) y7))) zaI)
def f24:M9:=⟨false,[some 1],5,[.tmp 4],j3 zeL (j3 (j3 zbj (w9 0 (I9 agA))) (j3 (j4 (D9 ziW nM j6)) p9)),none⟩
theorem an6:P6 24 f24:=L9 [3,0,7,15,2]
def agB:SC:=j3 (j3 (j4 (j5 zhY (u6 I7 (j5 wK (D9 zjg uE j6))))) (o8 ji y7 zhK)) (j3 (w9 3 (j3 (j4 (j5 zhY (u6 I7 (j5 (O9 4 A8 fU) (u6 uP (u7 (y8 58 [A8,rH]) SG)))))) (j3 (j4 (D9 (I5 zR zS qY lT) yH j6)) (o8 Az (j3 (j4 (D9 zi5 Jt j6)) p9) y7)))) zbo)
def agC:SC:=j3 zaK (j3 (w9 1 (j3 (j4 (j5 zeq (u6 YA (fq zbv nM zcA)))) (j3 (j3 zbz (w9 2 (I9 agB))) (j3 (j3 (j4 (j5 zga (u6 I7 (j5 zbe (j5 zcD (j5 zgP (u6 zfj (u7 zfT (j5 zem (D9 WO BG j6)))))))))) (o8 En (j3 (j4 (D9 zbl Jt j6)) p9) y7)) (j3 (j3 (j4 (j5 zga (u6 I7 (j5 ziA (j5 zcD (j5 zgP (u6 zfj (u7 zfT (D9 zdr DK j6))))))))) (o8 MJ (j3 (j4 (D9 ze3 Jt j6)) p9) y7)) (j3 (j3 (j4 (j5 zga zen)) (o8 Pv (Y0 2 (dcL (R6 1 0 [UR] []) 0 C8 (O4 WR C8 (pz (oK 1 16 ay A8) MF C8 (O4 zgb C8 (fD I7 1 C8 (dcL zgX 1 C8 (pz (oK 1 16 lD A8) MF C8 (O4 oF uO kg))))))))) y7)) (j3 (j4 (j5 (H9 3 jB) zer)) (j3 (j3 (j4 (D9 (I5 cK cO Vg lT) RP j6)) (o8 Vh (j4 (j5 (H9 4 jB) zer)) y7)) (j3 (j4 (D9 ze8 zec j6)) (o8 WS (j3 (j4 (D9 zdW Jt j6)) p9) y7)))))))))) zaI)
def f25:M9:=⟨false,[some 1,some 6],16,[.tmp 15],j3 zeY (j3 (j3 zbj (w9 0 (I9 agC))) (j3 zeY p9)),none⟩
theorem an7:P6 25 f25:=L9 [5,0,13,7,6,24,1,8,35,46,55,58,9,71,77,4]
def agD:SC:=j3 zc3 (j3 (w9 1 (j3 (Y0 0 (O4 Ja C8 (O4 Oc C8 (O4 zhR C8 (fD uP 0 C8 (O4 RO C8 (O4 Oc C8 (O4 zhR C8 (fD uP 0 C8 (pz (y8 60 [zK,A8]) (fV uE aU) C8 (O4 BH uE kg))))))))))) (o8 ji zfW y7))) zbo)
def f26:M9:=⟨false,[some 0,some 1],7,[.tmp 6],j3 zdi (j3 (j3 zel (o8 iK zfW y7)) (j3 (j3 zbz (w9 0 (I9 agD))) (j3 (j4 (D9 ziW uO j6)) p9))),none⟩
theorem an8:P6 26 f26:=L9 [0,1,10,5,14,26,4]
def agE:SC:=j3 zaK (j3 (w9 1 (j4 (j5 Oc (j5 (O9 4 au aS) (u6 uP (u7 (y8 61 [A8]) (gX zbs (u7 (oK 4 56 zK A8) Yq)))))))) zaI)
def f27:M9:=⟨false,[some 1],5,[.tmp 4],j3 zgF (j3 (j4 (D9 Yz kY j6)) (j3 (j3 zbj (w9 0 (I9 agE))) (j3 (j4 (D9 Oc nM j6)) p9))),none⟩
theorem an9:P6 27 f27:=L9 [4,0,8,3,2]
def f28:M9:=⟨false,[some 0,some 2],4,[.cell 3 (some 2)],j3 (j4 (fq Bj oZ zeP)) (j3 (j4 (j5 zbh (j5 vG (u6 I7 (u7 (y8 63 [A8,iK]) (u7 (y8 62 [lD,A8]) zcH)))))) p9),none⟩
theorem ana:P6 28 f28:=L9 [0,2,1,4]
def f29:M9:=⟨false,[some 0],8,[.tmp 7],j3 (j4 (fq Bj oZ (D9 SE wJ j6))) (j3 (j4 (j5 uN (u6 I7 (u7 (y8 64 [A8]) zJ)))) (j3 (j3 za6 (o8 fU zdx y7)) (j3 (j3 zay (o8 jB zdx y7)) (j3 (j3 zbB (j3 (j4 (j5 zge (u6 ze0 (u7 zgJ zbd)))) (o8 rH zdx y7))) (j3 (j4 (j5 vG (u6 I7 (u7 (y8 66 [A8,C9 (.func (.func 67) [] [])]) (j5 BH SG))))) p9))))),none⟩
theorem anb:P6 29 f29:=L9 [0,1,3,20,43,4,67,2]
def f30:M9:=⟨false,[some 0,some 1],3,[.tmp 2],j3 SH (j3 (j4 (u7 (y8 68 [aS,au]) zb2)) p9),none⟩
theorem anc:P6 30 f30:=L9 [0,1,4]
def f31:M9:=⟨false,[some 0],3,[.tmp 2],j3 zbk (j3 (j4 (j5 WJ (u6 I7 (u7 (y8 32 [A8]) zck)))) p9),none⟩
theorem ane:P6 31 f31:=L9 [0,1,2]
def f32:M9:=⟨false,[some 0],2,[.tmp 1],zbC,none⟩
theorem is32:P6 32 f32:=L9 [0,2]
def f33:M9:=⟨false,[some 0],3,[.tmp 2],j3 zcQ (j3 (j4 (j5 (uR (.func 69) [] [au]) zJ)) p9),none⟩
theorem anf:P6 33 f33:=L9 [0,1,2]
def LC:SC:=j3 (j4 (D9 zgk uE j6)) (j3 (o8 ji y7 Yp) (j3 (w9 1 (j3 (j4 (j5 (O9 4 rH fU) zcY)) (j4 (u6 zdy (u7 (y8 34 [A8,au]) j6))))) (j4 (j5 zfi Yq))))
def f34:M9:=⟨false,[some 0,some 1],8,[],j3 zgQ (j3 (j4 (u6 (aD 4 iK) (u7 (bV au [A8]) j6))) (j3 (j4 (j5 SI (Xg I7 uO (D9 wK nM zaN)))) (w9 0 (I9 LC)))),none⟩
theorem ang:P6 34 f34:=L9 [0,1,2,12,11,13,10,5]
def f35:M9:=⟨false,[some 0,some 1,some 3,some 4],6,[],j3 zgQ (j3 (j4 (u6 (eB au) (j5 zgG (u6 I7 (u6 (wZ eqStr 1 nG true aH A8) (j5 zip (j5 Gl DL))))))) (j3 (j4 (u6 (eB fU) (j5 zg8 (u6 DJ (j5 ziU (j5 SA (u7 (K7 1 fU A8) j6))))))) (j4 (u6 (eB jB) (j5 zg8 (u6 DJ (j5 zdt (j5 ziY (j5 zcC (j5 (gP ay true BH) (j5 zgR (j5 zjt (u7 (K7 1 jB A8) j6))))))))))))),none⟩
theorem anh:P6 35 f35:=L9 [0,1,4,2,3,6]
def f36:M9:=⟨false,[some 1,some 0],3,[.tmp 2],j3 WM (j3 (j4 (u6 zfU (u6 (wZ eqStr 1 nG false A8 au) zJ))) p9),none⟩
theorem ani:P6 36 f36:=L9 [1,0,3]
def f37:M9:=⟨false,[some 2,some 0],3,[],j3 (j4 (u6 zfU (D9 za7 oZ j6))) (o8 au (j4 (u7 (K7 1 aS iK) j6)) y7),none⟩
theorem anj:P6 37 f37:=L9 [1,4,0]
def f38:M9:=⟨false,[some 0,some 1],16,[.tmp 15],j3 (j4 (fq Bj uO (fq (JG au) oG zc4))) (j3 (j3 (j4 (j5 WQ (Xg I7 kY j6))) (w9 0 (j3 (j4 (j5 (I5 cK cO fU qN) WL)) (o8 jB (j3 (j4 (j5 zjk (u6 I7 zcu))) p9) (j3 (j4 (j5 (I5 cK cO fU Ay) DL)) (o8 ji (j3 (j4 (j5 zcS (u6 I7 (j5 zgG (u6 I7 (u7 (bV aH [A8]) zcu)))))) p9) (j3 (j4 (j5 (I5 cK cO fU UY) SG)) (o8 qY (j3 (j4 (j5 Yw (u6 I7 (u6 (aD 4 iK) (u7 (bV ay [A8]) zcu))))) p9) (j3 (j4 (j5 (I5 cK cO fU Pt) Ve)) (o8 Az (j3 (Y0 0 (fD Yy 0 C8 (O4 SI C8 (fD I7 0 C8 (O4 SF C8 (fD uP 0 C8 (pz zeE (fV C8 (fV Jt aU)) C8 (O4 (yN A8) C8 zdF)))))))) p9) (j3 (j4 (j5 (I5 cK cO fU zii) zco)) (o8 En (j3 (Y0 0 (fD Yy 0 C8 (O4 SI C8 (fD I7 0 C8 (O4 SF C8 (fD uP 0 C8 (pz zeE (fV C8 (rA C8 (fV Jt aU))) C8 (O4 za7 C8 zee)))))))) p9) (j3 (j3 (j4 (j5 (I5 cK cO fU zdl) zb9)) (o8 MJ y7 (j4 (j5 (I5 cK cO fU ziw) zb9)))) (o8 MJ (j3 (Y0 0 (fD Yy 0 C8 (O4 SI C8 (fD I7 0 C8 (O4 SF C8 (fD uP 0 C8 (pz zeE (fV C8 (fV Od aU)) C8 (O4 ziK C8 (O4 oF Od kg))))))))) (j3 (j3 (j4 (j5 WQ (u6 I7 (j5 zeg (D9 (ZT mE Pv A8) Vf j6))))) (o8 Vg (j3 (j4 (u7 (y8 70 [Pv]) zcu)) p9) y7)) (j3 (Y0 0 (fD Yy 0 C8 (O4 SI C8 (fD I7 0 C8 (O4 zcg C8 (fD uP 0 C8 (pz zeE (fV C8 (rA C8 (fV Jt aU))) C8 (O4 ziK C8 zee)))))))) p9))) y7)))))))))))))) (j3 (Y0 0 (fD Yy 0 C8 (O4 SI C8 (fD I7 0 C8 (O4 SF C8 (fD uP 0 C8 (pz zeE (fV RP aU) C8 ze9))))))) (j3 (Y0 0 (fD Yy 0 C8 (O4 SI C8 (fD I7 0 C8 (O4 zcg C8 (fD uP 0 C8 (pz zeE (fV zec aU) C8 (O4 oF zec kg)))))))) (j3 (Y0 0 (pz (y8 72 []) (aF WQ false C8 (uJ I7 1 false C8 (fV C8 (aF zhS false C8 (aF zf2 false C8 (rA C8 (uJ Yy 2 false C8 (fV C8 (fV C8 (rA C8 (fV Jt aU))))))))))) C8 (O4 WQ C8 (fD I7 1 C8 (fD (wZ K3 1 d9.nilFunc false aH A8) 0 C8 (O4 zhS C8 (O4 zf2 C8 (pz (bV aH [ay,A8]) (uJ Yy 2 false C8 (fV C8 (fV C8 (rA C8 (fV Jt aU))))) C8 (fD Yy 2 C8 (O4 (pExt ay 0) C8 (O4 (pExt aH 1) C8 (pz (y8 71 [aH,ay,A8]) (fV Jt aU) C8 zdF)))))))))))) p9)))),none⟩
theorem ank:P6 38 f38:=L9 [0,1,3,9,10,14,2,21,27,36,46,5,60,6,7,4]
def AA:SC:=j3 (j3 (j4 (j5 SI (u6 I7 (j5 wK (j5 zhO (j5 (gP A8 true zcU) (u6 wQ (j5 zdm (D9 IZ nM j6))))))))) zb5) (j3 (w9 1 (j3 (j3 (j4 (D9 (I5 Es Fe ji ziG) uO j6)) (o8 rH (j3 (j4 (j5 zc2 zc6)) p9) y7)) (j3 (j4 (j5 SI (u6 I7 (j5 zh6 (u6 uP (j5 (I5 aV aY ji qN) zc9)))))) (j4 (j5 zcU (u6 I7 (j5 zhu (u6 I7 (j5 WU (j5 zdj (u6 I7 (j5 zhv (u6 I7 (j5 zag (j5 (Sv true lD [A8]) (j5 zeQ zcH)))))))))))))))) zdz)
def f39:M9:=⟨false,[some 0,some 5],9,[.cell 7 (some 2)],j3 (j4 (fq Bj oG zeH)) (j3 (j4 (j5 zbh (fq MH kY Vd))) (j3 (j3 zfp (w9 0 (I9 AA))) (j3 (j4 (u6 (aD 2 fU) zc6)) p9))),none⟩
theorem anl:P6 39 f39:=L9 [0,6,2,5,18,1,22,4,7]
def kZ:SC:=j3 (j3 (j4 (j5 vG zea)) zgx) (j3 (w9 1 (j3 (j4 (j5 vG zc1)) zeb)) zbQ)
def f40:M9:=⟨false,[some 0],11,[.tmp 10],j3 zcR (j3 (j4 (j5 uN (u6 I7 (u7 (y8 73 [A8]) zJ)))) (j3 (j3 za6 zej) (j3 (j3 zay zcv) (j3 zbB (j3 (j3 (j4 (j5 zge (u6 ze0 (u7 (gE ji true (y8 74 [A8])) zbd)))) zcw) (j3 (j3 Yu (w9 0 (I9 kZ))) (j3 (j4 (D9 ziW DK j6)) p9))))))),none⟩
theorem anm:P6 40 f40:=L9 [0,1,3,21,44,4,68,5,73,82,2]
def vH:SC:=j3 (j3 (j4 (j5 SI (u6 I7 (j5 wK (D9 zhO kY j6))))) Oa) (j3 (w9 1 (j3 (j4 (j5 SI (u6 I7 (j5 zh6 (u6 uP (MC (y8 41 [A8]) nM j6)))))) zeB)) zdz)
def f41:M9:=⟨false,[some 0],6,[.tmp 5],j3 (j4 (fq Bj oG zb4)) (j3 (j3 zfp (w9 0 (I9 vH))) (j3 (j4 (j5 WQ (u6 I7 (j5 ziS DL)))) p9)),none⟩
theorem ano:P6 41 f41:=L9 [0,3,1,8,16,2]
def f42:M9:=⟨false,[some 0],2,[.tmp 1],zbC,none⟩
theorem anp:P6 42 f42:=L9 [0,2]
def Gp:SC:=j3 (j3 (j4 (j5 vG (u6 I7 (j5 wK (D9 (I5 wP wU rH A8) wJ j6))))) (o8 qY y7 zhK)) (j3 (w9 3 (j4 (j5 EX (j5 ziP (u6 wQ (j5 (gP aH true WR) (j5 (gP lD true zhR) (u6 (ME zK true uP) (j5 (gP DN true Oc) (u7 (gE LB true (y8 43 [ay,A8])) (j5 (bZ MI A8 Pq) DL))))))))))) (j4 (j5 WR (j5 zag RN))))
def DR:SC:=j3 zcZ (j3 (w9 1 (Y0 0 (O4 EX C8 (O4 oF C8 (O4 zg2 C8 (O4 (gP ay false Vb) C8 (O4 (gP aH false (O9 2 ay A8)) C8 (O4 (gP lD false RQ) C8 (fD (ME zK false I7) 0 C8 (O4 (gP DN false Ju) C8 (fD (ME LB false I7) 0 C8 (O4 (gP MI false zgl) C8 (O4 zjq C8 zhE))))))))))))) zbt)
def f43:M9:=⟨false,[some 0,some 3],9,[.tmp 8],j3 zeW (j3 (j4 (j5 uN (u6 I7 (j5 (I5 zR zS A8 Ay) DL)))) (j3 (j3 WM (w9 0 (I9 DR))) (j3 (j3 (j4 (D9 qd uO j6)) (w9 2 (I9 Gp))) (j3 (j4 (D9 EX yH j6)) p9)))),none⟩
theorem anq:P6 43 f43:=L9 [0,2,6,1,14,5,7,32,4]
end
end Go.Proofs.YtcnimimffiiimaaGreatDoor.TT

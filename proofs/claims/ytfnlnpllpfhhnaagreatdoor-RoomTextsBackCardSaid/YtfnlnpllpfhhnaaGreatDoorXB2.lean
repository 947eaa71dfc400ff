/- The tables: each function of the program is the code that stands here; no condition. -/
import Derived.Test.YtfnlnpllpfhhnaaGreatDoorXB0
import Derived.KernelRfl
import Derived.Test.YtfnlnpllpfhhnaaGreatDoorProg
set_option linter.unusedSimpArgs false
set_option linter.unusedVariables false
namespace Go.Proofs.YtfnlnpllpfhhnaaGreatDoor.TT
open Go Go.AM
set_option maxRecDepth 100000
noncomputable section
def af4:SC:=d9 (d9 (l5 (rcP (pIb iGt sGt zat zcw) zao x9)) zn6) (C9 1 (d9 (l5 (l9 zob (l9 zkK zov))) (l5 (l9 zgq (l9 zgU (l9 zm8 (bg ze2 (G8 (aN oL0) (l9 zaZ zkb)))))))))
def f91:SFn:=⟨false,[some 0],7,[.tmp 6],d9 (l5 (rcP zoc zaG x9)) (d9 (d9 zdr (D7 zag (d9 (l5 (l9 zgq (l9 zgV zaU))) (d9 (d9 (l5 (rcP (pIb iGt sGt zat (O9 (j6.int .i64 (Int.negSucc 9)))) zn7 x9)) (D7 zai (d9 (l5 (l9 (pIb fq aL zo6 zak) (l9 zm8 (bg ze2 (G8 (aN oL0) (l9 (pIb fq aL (O9 (j6.str [45])) oL0) zbr)))))) H7) G7)) (d9 (M0 1 (dcP zob sNo (dcP zkK sNo (dcE (E8 91 [oL0]) ghF sNo (dcP zof sNo (dcP zgU sNo (dcP zm8 sNo (dcL ze2 0 sNo (abP oL0 1 sNo (dcP (pIb fq aL zpm oL0) sNo znl)))))))))) H7))) G7)) (d9 (l5 (l9 zgq (l9 zgU (l9 zm8 (bg ze2 (G8 (aN oL0) za5)))))) (d9 (C9 0 (J7 af4)) (d9 (l5 (rcP zaZ zaG x9)) H7)))),none⟩
theorem aqm:M5 Tryz.prog 91 f91:=D6 (slots:=[0,6,11,3,34,4,2]) (pure:=false) (rc:=false) (by kernel_rfl)
def f93:SFn:=⟨false,[some 0],6,[.tmp 4,.tmp 5],d9 (l5 (rcP zae zao zls)) (d9 (l5 (H9 (E8 178 [zat]) zhq)) (d9 (d9 ziW (D7 zai (d9 (l5 (H9 (E8 179 [O9 (j6.str [65,116,111,105]),zat,zac,zac,zag]) (rcP zof zao zoR))) H7) G7)) (d9 (l5 (rcP zof zao zls)) H7))),none⟩
theorem aqn:M5 Tryz.prog 93 f93:=D6 (slots:=[0,5,12,4,2,3]) (pure:=false) (rc:=false) (by kernel_rfl)
def f111:SFn:=⟨false,[some 0,some 1,some 2],8,[.tmp 7],d9 (l5 (rcL znY zao (rcL zb6 zaw zaX))) (d9 (d9 (l5 (l9 (pIb iLt sLt zai zac) (l9 zpb (l9 (gP oL1 false (pIb iGt sGt oL0 zoB)) (rcP zdH zam x9))))) (D7 zak zeF G7)) (d9 (d9 (l5 (l9 zdW (l9 (I6 2 oL0) (G8 zah (l9 (nY (.func 205) [] [zar]) (H9 (E8 204 [oL1,oL0]) znm)))))) (D7 zax zhJ G7)) zde)),none⟩
theorem af5:M5 Tryz.prog 111 f111:=D6 (slots:=[0,1,2,12,3,4,18,6]) (pure:=false) (rc:=false) (by kernel_rfl)
def f112:SFn:=⟨true,[some 0],3,[.tmp 2],d9 (l5 (rcL znY zpn zoJ)) (d9 (l5 (G8 zhQ (H9 (E8 207 [oL0]) (l9 (nY (.func 208) [] [zag]) (H9 (E8 206 [oL1,oL0]) zaL))))) H7),none⟩
theorem cZ:M5 Tryz.prog 112 f112:=D6 (slots:=[0,1,2]) (pure:=true) (rc:=false) (by kernel_rfl)
def VR:SC:=d9 (d9 (l5 (rcP (pIb iGe sGe zai zac) zam x9)) za7) (d9 (C9 1 (d9 (l5 (l9 (K6 1 zal zai) (G8 zah (H9 (E8 210 [oL0,zar]) zbr)))) (d9 (l5 (l9 (pIb iGe sGe zax zac) (l9 zjf (G8 znW (l9 (gP oL2 true za6) (l9 zkw (l9 zhU (G8 zdO (l9 (gP zok true zdt) (l9 (gP ze6 true (pIb iLt sLt oL1 oL0)) (rcP zfX zaH x9))))))))))) (D7 zaF (l5 (l9 zeK (G8 zah (l9 (K6 2 oL0 zai) (l9 zbu (G8 zah (l9 (K6 1 oL0 zax) (G8 zah za5)))))))) G7)))) (l5 (l9 za6 zhK)))
def f113:SFn:=⟨false,[some 0,some 4,some 5,some 7],10,[.tmp 9],d9 (l5 (rcL znY zpn zaW)) (d9 (d9 (l5 (l9 zeK (G8 zah (l9 zn0 zhK)))) (C9 0 (J7 VR))) (d9 (l5 (rcP zaZ zaJ x9)) H7)),none⟩
theorem af6:M5 Tryz.prog 113 f113:=D6 (slots:=[0,4,9,16,1,2,10,3,36,8]) (pure:=false) (rc:=false) (by kernel_rfl)
def VT:SC:=d9 (l5 (rcP (pIb iLt sLt zdE zg0) zje x9)) (d9 (D7 zfW G7 zns) (d9 (C9 7 (d9 (l5 (l9 (K6 2 zc6 zdE) (G8 zbp (rcL zaz (sR zbe) zcc)))) (M0 1 (dcR zlO 0 sNo (dcR zlb 0 sNo (dcP (I6 0 zfY) sNo (dcR zah 0 sNo (dcP zmC sNo (dcR zah 0 sNo (dcE znn ghF sNo (dcP zhm sNo (dcR zah 1 sNo (dcP zmC sNo (dcR zah 1 sNo (dcP zhW sNo (dcL zon 0 sNo (dcE zmg ghF sNo (dcP zhm sNo zjv)))))))))))))))))) (l5 (l9 (pIb fq aL zdE zaf) zmd))))
def VU:SC:=d9 (l5 (rcP (pIb iLt sLt zbE zcl) zdu x9)) (d9 (D7 zbt G7 zo0) (d9 (C9 5 (d9 (l5 (l9 (K6 8 zcs zbE) (G8 zn4 (rcL zaK ze0 zn1)))) (d9 (M0 0 (dcP zeg sNo (dcP zi0 sNo (dcR zah 0 sNo (dcP zmD sNo (dcR zah 0 sNo (dcE zjr ghF sNo (dcP zeg sNo (dcP zi1 sNo (dcR zah 1 sNo (dcP zmD sNo (dcR zah 1 sNo (dcE zjr (ghP zi0 (ghD (ghP zi1 (ghD JR)))) sNo (dcP zi0 sNo (dcE (L9 1 oL0 ze6) ghF sNo (dcP zi1 sNo zjw)))))))))))))))) (l5 (l9 zjQ (G8 zah (G8 (P6 8 zbZ) (bg zec (H9 (nX 8 96 oL2 oL0) (l9 zjQ zbm)))))))))) (l5 (l9 (pIb fq aL zbE zaf) zc5))))
def VW:SC:=d9 zei (d9 zfq (d9 (C9 3 (d9 (l5 (l9 (K6 4 zbw zaY) (G8 zg8 (rcL zaO zb5 ziy)))) (d9 (l5 (G8 zlO (G8 zlb (l9 zi2 (G8 zah (l9 zmE (l9 zbi (G8 zah (H9 (E8 113 [zok,zpm,oL3,oL0]) (l9 zi2 zbm)))))))))) (l5 (l9 zjP (G8 zah (G8 (P6 4 zbk) (bg (J8 4 1 zav [(0,4,oL0)]) (H9 (nX 4 32 oL2 oL0) (l9 zjP zbm)))))))))) zdq))
def VX:SC:=d9 zdm (d9 zeq (d9 (C9 1 (d9 (l5 (l9 zkQ (G8 zbp (rcL zaz zaJ zcc)))) (M0 1 (dcR zlO 0 sNo (dcR zlb 0 sNo (dcP (I6 0 zaP) sNo (dcR zah 0 sNo (dcP znh sNo (dcR zah 0 sNo (dcE znn ghF sNo (dcP zjR sNo (dcR zah 1 sNo (dcP znh sNo (dcR zah 1 sNo (dcP zhW sNo (dcL zon 0 sNo (dcE zmg ghF sNo (dcP zjR sNo zjv)))))))))))))))))) zcv))
def f115:SFn:=⟨true,[some 0,some 1],28,[.cell 27 (some 7)],d9 (l5 (rcL znY zn7 (rcL zb6 zao (rcL zfr zmW x9)))) (d9 (l5 (l9 zoe (G8 znr (rcL zfr zam (H9 (L9 7 oL0 oL1) x9))))) (d9 (M0 1 (dcP zdg sNo (dcR zah 0 sNo (dcE (E8 215 [oL0]) ghF sNo (dcP zdx sNo (dcR zbp 1 sNo (dcP (M8 zcN [(0,2,oL0),(2,1,oL2)]) sNo (dcL zfr 0 zbb (dcE (L9 7 oL0 oL1) ghF sNo U8))))))))) (d9 (l5 (l9 (nY (.func 216) [] [zai,zal]) zgp)) (d9 (d9 (l5 (l9 zdh zfU)) (C9 0 (J7 VX))) (d9 (d9 (l5 (l9 zdy zfy)) (C9 2 (J7 VW))) (d9 (d9 (l5 (l9 ze1 (rcR zah zoK (rcP zn0 zbG ziX)))) (C9 4 (J7 VU))) (d9 (d9 (l5 (l9 zes (rcR zah zc3 (rcP zn0 (sL zbd) (rcP zae zgb x9))))) (C9 6 (J7 VT))) (d9 (l5 (G8 (P6 7 zaM) (H9 (L9 7 ziJ oL0) x9))) H7)))))))),none⟩
theorem af7:M5 Tryz.prog 115 f115:=D6 (slots:=[0,1,2,5,3,28,27,29,26,9,6,51,50,52,49,11,74,73,75,72,7,13,102,101,103,100,15,4]) (pure:=true) (rc:=false) (by kernel_rfl)
def VY:SC:=d9 zhf (d9 zhp (d9 (C9 3 (d9 (l5 (l9 (K6 1 zaY zaF) zkt)) (l5 (l9 zbX (H9 (nX 1 8 oL0 zbh) zow))))) zfZ))
def VZ:SC:=d9 za3 (d9 za7 (d9 (C9 1 (d9 zgB (d9 (l5 (l9 zaZ (l9 (wV zax) zkb))) (d9 (l5 (rcP (pIb iLt sLt zar zac) zaA x9)) (D7 zaD (l5 (l9 (vP 9 (O9 (j6.str [108,101,110,32,111,117,116,32,111,102,32,114,97,110,103,101]))) zoV)) G7))))) zaR))
def f117:SFn:=⟨false,[some 0],15,[.tmp 14],d9 (l5 (rcP zbT zbJ x9)) (d9 zc2 (d9 (d9 zbL (C9 0 (J7 VZ))) (d9 (l5 (H9 (E8 220 [O9 Z,zar]) zow)) (d9 (d9 (l5 (rcP zob zbd (rcP zn0 zaJ zda))) (C9 2 (J7 VY))) (d9 (l5 (rcP zbX zbJ x9)) H7))))),none⟩
theorem af8:M5 Tryz.prog 117 f117:=D6 (slots:=[0,11,10,12,9,3,5,20,27,26,28,25,6,8,2]) (pure:=false) (rc:=false) (by kernel_rfl)
def f123:SFn:=⟨true,[some 0],14,[.cell 3 none],d9 (l5 (rcL znY zpn (rcL zm4 zam x9))) (d9 (d9 (l5 (l9 za9 (G8 zbp (H9 (E8 228 [oL0,zac,O9 (j6.int .i64 (Int.ofNat 1000000))]) zkW)))) (D7 zai (d9 (l5 (H9 (L9 1 zak zaf) x9)) H7) G7)) (d9 (d9 (l5 (l9 zbz (G8 zah (l9 zn0 (l9 zff (l9 zmz (G8 zbo (l9 zeR (l9 zeh (l9 zbl (l9 zmA (G8 zbo (l9 zeR (l9 zjD (l9 zbl (l9 zgK (G8 zbo (l9 zeR (l9 zeh (l9 zbl (l9 zmB (G8 zbo (l9 zeR (l9 zjE zk4)))))))))))))))))))))))) (D7 zal zhg G7)) (d9 (d9 (l5 (G8 zcf (H9 (E8 229 [oL0]) za5))) (d9 zg9 (D7 zax (d9 (l5 (H9 (L9 1 zak zar) x9)) H7) G7))) (d9 (l5 (G8 zcf (H9 (E8 230 [oL0]) zb0))) (d9 (d9 (l5 (G8 zcf (rcE (E8 231 [oL0,zaD]) zaH x9))) (C9 0 (BJ zaF [some 9] (.reg [⟨.p (.mov (.slot 9)),some 10,none⟩]) (.block 1 (.seq (.reg [⟨.p (.mov (.slot 10)),none,none⟩,⟨.p (.ib .neq (.loc 0) (.con zaa)),some 11,none⟩]) (.cond (.slot 11) (.seq (.reg [⟨.p (.mov (.slot 10)),none,none⟩,⟨.e (.store 1 (.slot 3) (.loc 0)),none,none⟩]) .ret) .skip)))))) (d9 (l5 (G8 zcf (H9 (E8 232 [oL0]) zow))) (d9 (d9 (l5 (l9 (wV za0) (l9 zk3 (l9 ziU (G8 zbo (l9 zeR (l9 (gP oL3 false zgW) (l9 (gP zpl false zbX) (l9 (gP zpm false zn0) (l9 (gP zok false zbz) (G8 (gRd ze6 false zah) (l9 (gP zoS false zn0) (l9 (gP zoF false zmh) (l9 (gP zoG false zgW) (l9 (gP zoO false (pIb fq aL ze6 oL0)) (l9 (gP zlJ false zb2) (G8 (gRd zo1 false zah) (l9 (gP (mY 14) false zn0) (l9 (gP (mY 15) false zgW) (l9 (gP (mY 16) false zlt) (l9 (gP (mY 17) false zg1) (rcP (dJ (mY 18) zoE oL0) zbH x9)))))))))))))))))))))) (D7 zbh zhg G7)) (d9 (l5 (H9 (L9 1 zak zac) x9)) H7)))))))),none⟩
theorem P7:M5 Tryz.prog 123 f123:=D6 (slots:=[0,1,10,2,38,3,42,4,48,49,5,51,6,77]) (pure:=true) (rc:=false) (by kernel_rfl)
def f125:SFn:=⟨false,[some 0],3,[.tmp 2],d9 zoM (d9 ze8 (d9 (l5 (bg (J8 8 0 zaq []) (H9 (nX 8 96 oL0 zat) zaL))) H7)),none⟩
theorem af9:M5 Tryz.prog 125 f125:=D6 (slots:=[0,4,2]) (pure:=false) (rc:=false) (by kernel_rfl)
def Bl:SC:=d9 za3 (d9 za7 (d9 (C9 1 (d9 zop (d9 (l5 (l9 zmq (G8 zah zoI))) zn8))) zaR))
def f127:SFn:=⟨false,[some 0,some 4],8,[.tmp 7],d9 za8 (d9 (d9 zcg (C9 0 (J7 Bl))) zcp),none⟩
theorem afa:M5 Tryz.prog 127 f127:=D6 (slots:=[0,8,7,9,1,5,16,4]) (pure:=false) (rc:=false) (by kernel_rfl)
def f129:SFn:=⟨false,[some 0],3,[.tmp 2],d9 zbf (d9 (l5 (l9 zdR (G8 zbp (H9 (E8 130 [oL0,zac,O9 (j6.int .i64 (Int.ofNat 1000000))]) zaL)))) H7),none⟩
theorem afb:M5 Tryz.prog 129 f129:=D6 (slots:=[0,1,2]) (pure:=false) (rc:=false) (by kernel_rfl)
def f130:SFn:=⟨false,[some 0,some 1,some 3],5,[.tmp 4],zau,none⟩
theorem afc:M5 Tryz.prog 130 f130:=D6 (slots:=[0,1,3,2,6]) (pure:=false) (rc:=false) (by kernel_rfl)
def f131:SFn:=⟨false,[some 1,some 0],3,[],d9 zdw (l5 (l9 zdz (G8 zbp zic))),none⟩
theorem afd:M5 Tryz.prog 131 f131:=D6 (slots:=[1,0,3]) (pure:=false) (rc:=false) (by kernel_rfl)
def f132:SFn:=⟨false,[some 0],3,[.tmp 2],d9 zbf (d9 (l5 (l9 zdp (G8 zn4 (bg zdv (l9 zib (H9 zpj (l9 zbs zaL))))))) H7),none⟩
theorem afe:M5 Tryz.prog 132 f132:=D6 (slots:=[0,1,2]) (pure:=false) (rc:=false) (by kernel_rfl)
def f133:SFn:=⟨false,[some 1,some 0],3,[],d9 zdw (l5 (l9 zeJ (G8 zn4 (l9 zcr zlk)))),none⟩
theorem aff:M5 Tryz.prog 133 f133:=D6 (slots:=[1,0,3]) (pure:=false) (rc:=false) (by kernel_rfl)
def f134:SFn:=⟨false,[some 0],3,[.tmp 2],d9 zbf (d9 (l5 (l9 zeC (l9 zbi (G8 zah (H9 (E8 135 [oL0]) (l9 zmy (l9 zeo (G8 zcj (H9 (gE oL3 true zh0) zf6))))))))) H7),none⟩
theorem afg:M5 Tryz.prog 134 f134:=D6 (slots:=[0,1,2]) (pure:=false) (rc:=false) (by kernel_rfl)
def f135:SFn:=⟨false,[some 0],2,[.tmp 1],d9 zd9 (d9 (l5 (H9 (E8 38 [zat,zaf,zoo]) zn2)) H7),none⟩
theorem afh:M5 Tryz.prog 135 f135:=D6 (slots:=[0,2]) (pure:=false) (rc:=false) (by kernel_rfl)
def f136:SFn:=⟨false,[some 1,some 0],3,[],d9 zdw (l5 (l9 zlE (G8 zbp (l9 zcr (l9 (I6 14 oL0) zfI))))),none⟩
theorem afi:M5 Tryz.prog 136 f136:=D6 (slots:=[1,0,3]) (pure:=false) (rc:=false) (by kernel_rfl)
def f137:SFn:=⟨false,[some 0],3,[.tmp 2],d9 zbf (d9 (l5 (l9 zcL (l9 zbi (G8 zah (H9 (E8 135 [oL0]) (l9 zgJ (l9 zeo (G8 (gRd oL2 true zbp) (H9 (gE oL3 true (E8 130 [oL0,zac,zoB])) (l9 zn3 (l9 zgJ (l9 zln (G8 zcj (H9 (gE oL3 true (E8 38 [oL0,zac,O9 (j6.int .i64 (Int.ofNat 1048576))])) zf6)))))))))))))) H7),none⟩
theorem afj:M5 Tryz.prog 137 f137:=D6 (slots:=[0,1,2]) (pure:=false) (rc:=false) (by kernel_rfl)
def f138:SFn:=⟨false,[some 1,some 0],3,[],d9 zdw (l5 (l9 zlF (G8 zg8 (l9 zcr (l9 zm9 znJ))))),none⟩
theorem afk:M5 Tryz.prog 138 f138:=D6 (slots:=[1,0,3]) (pure:=false) (rc:=false) (by kernel_rfl)
def f139:SFn:=⟨false,[some 0],3,[.tmp 2],d9 zbf (d9 (l5 (l9 zfD (G8 zn4 (H9 (E8 140 [oL0]) zaL)))) H7),none⟩
theorem afl:M5 Tryz.prog 139 f139:=D6 (slots:=[0,1,2]) (pure:=false) (rc:=false) (by kernel_rfl)
def f140:SFn:=⟨false,[some 0],3,[.tmp 2],d9 zbf (d9 (l5 (l9 za9 (G8 zah (l9 zbs (l9 zfs (G8 znW (H9 (gE oL2 true zh0) (l9 zbx (l9 (gP oL0 true zdR) (G8 znW (H9 (gE oL2 true (E8 38 [oL0,O9 (j6.int .i64 (Int.negSucc 1125899906842623)),zoQ])) (l9 zbx (l9 zjg (G8 znW (H9 (gE oL2 true (E8 38 [oL0,zac,zeW])) (l9 zbx (l9 (gP oL0 true zdp) (G8 zdd (H9 (gE oL2 true (E8 130 [oL0,O9 (j6.int .i64 (Int.negSucc 9999)),O9 (j6.int .i64 (Int.ofNat 10000))])) (l9 zbx (l9 zgR (G8 znW (H9 znK (l9 zbx (l9 zjh (G8 znW (H9 znK (l9 zbx zaL)))))))))))))))))))))))))))) H7),none⟩
theorem afm:M5 Tryz.prog 140 f140:=D6 (slots:=[0,1,2]) (pure:=false) (rc:=false) (by kernel_rfl)
def f141:SFn:=⟨false,[some 1,some 0],3,[],d9 zdw (l5 (l9 zlD (G8 zn4 (l9 zcr zlc)))),none⟩
theorem afn:M5 Tryz.prog 141 f141:=D6 (slots:=[1,0,3]) (pure:=false) (rc:=false) (by kernel_rfl)
def f142:SFn:=⟨false,[some 0],3,[.tmp 2],d9 zbf (d9 (l5 (l9 zeB (G8 zbp (H9 (E8 143 [oL0]) zaL)))) H7),none⟩
theorem afo:M5 Tryz.prog 142 f142:=D6 (slots:=[0,1,2]) (pure:=false) (rc:=false) (by kernel_rfl)
def pR:SC:=d9 zch (d9 zn6 (d9 (C9 1 (d9 (l5 (l9 (K6 1 zar zai) (G8 zah (rcP za6 zaA zhB)))) (d9 (l5 (H9 (E8 135 [zax]) (l9 zcz (l9 zf0 (l9 zel (l9 zh7 (l9 zmw (l9 (gP oL1 true zbv) (G8 zcj (l9 (gP oL3 true zdt) (l9 zji (l9 (gP zpm true zfA) (G8 zkx (l9 (gP ze6 true (pIb iLe sLe zok oL0)) (l9 (gP zoO false zfX) (rcP (dJ zlJ zoE oL0) zaH x9)))))))))))))))) (D7 zaF (d9 (l5 zgc) H7) G7)))) zbq))
def f143:SFn:=⟨false,[some 0],10,[.tmp 9],d9 (l5 (rcL znY zpn zgc)) (d9 (d9 zeZ (C9 0 (J7 pR))) (d9 (l5 (l9 za9 (G8 zah (H9 (E8 38 [oL0,zac,O9 (j6.int .i64 (Int.ofNat 19999))]) (l9 zfs (G8 znW (l9 (gP oL2 true zn0) (H9 (gE oL3 true (E8 38 [oL0,zaN,zbC])) (l9 zn3 zoi))))))))) H7)),none⟩
theorem afp:M5 Tryz.prog 143 f143:=D6 (slots:=[0,1,8,7,9,6,4,3,29,2]) (pure:=false) (rc:=false) (by kernel_rfl)
def f144:SFn:=⟨false,[some 1,some 0],3,[],d9 zdw (l5 (l9 zhF (G8 zbp (l9 zcr (l9 (I6 28 oL0) zfI))))),none⟩
theorem afq:M5 Tryz.prog 144 f144:=D6 (slots:=[1,0,3]) (pure:=false) (rc:=false) (by kernel_rfl)
def f145:SFn:=⟨false,[some 0],3,[.tmp 2],d9 zbf (d9 (M0 0 (dcP zds sNo (dcP zbi sNo (dcR zah 0 sNo (dcE zip ghF sNo (dcP zap sNo (dcP ziV sNo (dcP zeo sNo (dcR zcj 0 sNo (dcE (gE oL3 true zig) ghF sNo (dcP zn3 sNo (dcP zap sNo (dcR zmn 0 sNo (dcE (gE oL1 true (E8 51 [oL0])) ghF sNo (dcP (gP oL2 true zds) sNo (dcR zd8 1 sNo (dcP (gP zpl true (pNe (mZ [.i,.i]) oL0 oL2)) sNo (dcP znV sNo zgZ)))))))))))))))))) H7),none⟩
theorem afr:M5 Tryz.prog 145 f145:=D6 (slots:=[0,1,2]) (pure:=false) (rc:=false) (by kernel_rfl)
def f146:SFn:=⟨false,[some 1,some 0],3,[],d9 zdw (l5 (l9 zlG (G8 zbp (l9 zcr (l9 (I6 30 oL0) zfI))))),none⟩
theorem afs:M5 Tryz.prog 146 f146:=D6 (slots:=[1,0,3]) (pure:=false) (rc:=false) (by kernel_rfl)
def f147:SFn:=⟨false,[some 0],2,[.tmp 1],d9 (l5 (rcP zoc zpn x9)) (d9 (l5 (H9 (E8 244 [zat]) zn2)) H7),none⟩
theorem aft:M5 Tryz.prog 147 f147:=D6 (slots:=[0,2]) (pure:=false) (rc:=false) (by kernel_rfl)
def f148:SFn:=⟨false,[some 0],3,[.tmp 2],d9 zb8 (d9 (l5 (l9 zdR (l9 zbi (G8 zah (l9 zdR (l9 zbu (G8 zah (bg zcH (H9 (E8 80 [zj6,oL0]) zaL))))))))) H7),none⟩
theorem afu:M5 Tryz.prog 148 f148:=D6 (slots:=[0,1,2]) (pure:=false) (rc:=false) (by kernel_rfl)
def f149:SFn:=⟨false,[some 0,some 1],2,[],d9 (l5 (H9 (E8 84 [zat,zj6]) x9)) (l5 (H9 zkL zic)),none⟩
theorem afv:M5 Tryz.prog 149 f149:=D6 (slots:=[0,1]) (pure:=false) (rc:=false) (by kernel_rfl)
def f150:SFn:=⟨false,[some 0],3,[.cell 2 (some 2)],d9 zhN (d9 (l5 (H9 zcS zn2)) (d9 (l5 (H9 zcS (l9 (M8 [zaa,zaa] [(0,1,zag),(1,1,oL0)]) zoL))) H7)),none⟩
theorem afw:M5 Tryz.prog 150 f150:=D6 (slots:=[0,3,2]) (pure:=false) (rc:=false) (by kernel_rfl)
def f151:SFn:=⟨false,[some 0],4,[.tmp 3],d9 zhR (d9 (l5 (l9 zdp (G8 zn4 (rcL zaE zn7 zn1)))) (d9 (l5 (l9 zoe (G8 zah (l9 zor (G8 zah (l9 zdo (G8 zah (l9 zco (l9 zbi (G8 zah (l9 zco (l9 zbu (G8 zah (l9 zfT (l9 zbi (G8 zah (l9 zfT (l9 zbu (G8 zah (l9 zlP (G8 zah (bg zfl (H9 (E8 80 [zjt,oL0]) zaU))))))))))))))))))))))) H7)),none⟩
theorem afx:M5 Tryz.prog 151 f151:=D6 (slots:=[0,1,3,2]) (pure:=false) (rc:=false) (by kernel_rfl)
def f152:SFn:=⟨false,[some 0,some 2],3,[],d9 (l5 (H9 (E8 84 [zat,zjt]) x9)) (d9 (l5 (H9 zcS (l9 (M8 zan [(0,1,oL0)]) (rcL zaE zpn zn1)))) (d9 (l5 (H9 zcS (l9 zbv zbm))) (d9 (l5 (H9 zcS zkd)) (d9 (l5 (H9 zkL (l9 zcE zcc))) (d9 (l5 (H9 zcS (l9 zb2 zhh))) (d9 (l5 (H9 zcS (l9 zb2 (l9 zbu zpe)))) (d9 (l5 (H9 zcS (l9 zeK zbm))) (l5 (G8 zhQ (l9 (dM zai) zlk)))))))))),none⟩
theorem afy:M5 Tryz.prog 152 f152:=D6 (slots:=[0,4,1]) (pure:=false) (rc:=false) (by kernel_rfl)
def f153:SFn:=⟨false,[some 0],3,[.tmp 2],d9 zb8 (d9 (l5 (l9 zeC (l9 zbi (G8 zah (l9 zeC (l9 zbu (G8 zah (bg zcH (H9 (E8 80 [zkF,oL0]) zaL))))))))) H7),none⟩
theorem afz:M5 Tryz.prog 153 f153:=D6 (slots:=[0,1,2]) (pure:=false) (rc:=false) (by kernel_rfl)
def f154:SFn:=⟨false,[some 0,some 1],2,[],d9 (l5 (H9 (E8 84 [zat,zkF]) x9)) (d9 (l5 (H9 zcS (l9 zcr (l9 (I6 14 oL0) zfm)))) (l5 (H9 zcS (l9 zcr (l9 (I6 14 oL0) zhi))))),none⟩
theorem afA:M5 Tryz.prog 154 f154:=D6 (slots:=[0,1]) (pure:=false) (rc:=false) (by kernel_rfl)
def f155:SFn:=⟨false,[some 0],3,[.tmp 2],d9 zb8 (d9 (l5 (l9 zcL (l9 zbi (G8 zah (l9 zcL (l9 zbu (l9 zbi (G8 zah (l9 zcL (l9 zbu (l9 zbu (G8 zah (l9 zcL (l9 zk8 (G8 zah (bg zhG (H9 (E8 80 [zke,oL0]) zaL))))))))))))))))) H7),none⟩
theorem afB:M5 Tryz.prog 155 f155:=D6 (slots:=[0,1,2]) (pure:=false) (rc:=false) (by kernel_rfl)
def f156:SFn:=⟨false,[some 0,some 1],2,[],d9 (l5 (H9 (E8 84 [zat,zke]) x9)) (d9 (l5 (H9 zcS (l9 zcr (l9 zm9 zfm)))) (d9 (l5 (H9 zkL (l9 zcr (l9 zm9 (l9 zbu (H9 (L9 2 oL0 oL3) x9)))))) (l5 (H9 zcS (l9 zcr (l9 zm9 (l9 zk8 zet))))))),none⟩
theorem afC:M5 Tryz.prog 156 f156:=D6 (slots:=[0,1]) (pure:=false) (rc:=false) (by kernel_rfl)
def f157:SFn:=⟨false,[some 0],4,[.tmp 3],d9 zhR (d9 (l5 (l9 zfD (G8 zn4 (rcL zaK zn7 zn1)))) (d9 (M0 1 (dcP zor sNo (dcR zah 0 sNo (dcP zdz sNo (dcR zah 0 sNo (dcP zfT sNo (dcR zah 0 sNo (dcP zeJ sNo (dcP zbi sNo (dcR zah 0 sNo (dcP zeJ sNo (dcP zbu sNo (dcR zah 0 sNo (dcL zgX 0 sNo (dcE (E8 80 [zim,oL0]) ghF sNo (dcP zdo sNo (dcR zah 1 sNo (dcE (E8 80 [O9 (j6.str [32,97]),oL0]) ghF sNo (dcP zco sNo (dcR zah 2 sNo (dcE (E8 80 [O9 (j6.str [32,98]),oL0]) ghF sNo (dcP (pIb fq aL zok oL3) sNo (dcP (pIb fq aL oL0 oL1) sNo zj7))))))))))))))))))))))) H7)),none⟩
theorem afD:M5 Tryz.prog 157 f157:=D6 (slots:=[0,1,3,2]) (pure:=false) (rc:=false) (by kernel_rfl)
def f158:SFn:=⟨false,[some 0,some 2],3,[],d9 (l5 (H9 (E8 84 [zat,zim]) x9)) (d9 (l5 (H9 zcS (l9 (M8 zaq [(1,1,oL0)]) (rcL zaK zpn zn1)))) (d9 (l5 (H9 zcS (l9 zdR zbm))) (d9 (l5 (H9 zcS (l9 zb2 zbm))) (d9 (l5 (H9 zkL (l9 zdp zcc))) (d9 (l5 (H9 (E8 84 [zat,O9 (j6.str [97])]) x9)) (d9 (l5 (H9 (E8 159 [zat,zmQ]) zkd)) (d9 (l5 (H9 (E8 84 [zat,zmQ]) x9)) (d9 (l5 (H9 zmF (l9 zcE zbm))) (l5 (G8 zhQ (l9 (dM zai) zlc))))))))))),none⟩
theorem afE:M5 Tryz.prog 158 f158:=D6 (slots:=[0,4,1]) (pure:=false) (rc:=false) (by kernel_rfl)
def nG:SC:=d9 (d9 (l5 (l9 zoD (l9 zbi (G8 zah (l9 zn0 (l9 zbQ (l9 zoY (l9 (gP oL1 true zgL) (l9 (gP oL2 true zbi) (G8 zn5 (l9 (gP zpl true zbK) (G8 zdO (l9 (gP zok true zog) (l9 (gP ze6 true zot) (rcP zfX zn7 x9))))))))))))))) zoz) (C9 1 (l5 (l9 zof (H9 zcS (bg zbg (H9 (nX 1 8 oL2 oL0) zaU))))))
def f159:SFn:=⟨false,[some 0,some 1],5,[.tmp 4],d9 zhS (d9 zlK (d9 (C9 0 (J7 nG)) zcy)),none⟩
theorem afF:M5 Tryz.prog 159 f159:=D6 (slots:=[0,1,21,5,4]) (pure:=false) (rc:=false) (by kernel_rfl)
def f160:SFn:=⟨false,[some 0],3,[.tmp 2],d9 zb8 (d9 (M0 1 (dcP zeB sNo (dcP zbi sNo (dcR zah 0 sNo (dcL zbg 0 sNo (dcE (E8 80 [zkG,oL0]) ghF sNo (dcP zeB sNo (dcP zbu sNo (dcR zah 1 sNo (dcE (E8 80 [zoa,oL0]) ghF sNo (dcP zlt sNo zgZ))))))))))) H7),none⟩
theorem afG:M5 Tryz.prog 160 f160:=D6 (slots:=[0,1,2]) (pure:=false) (rc:=false) (by kernel_rfl)
def f161:SFn:=⟨false,[some 0,some 1],2,[],d9 (l5 (H9 (E8 84 [zat,zkG]) x9)) (d9 (l5 (H9 zcS (l9 zcr (l9 (I6 28 oL0) zfm)))) (l5 (H9 zmF (l9 zcr (l9 (I6 28 oL0) zhi))))),none⟩
theorem afH:M5 Tryz.prog 161 f161:=D6 (slots:=[0,1]) (pure:=false) (rc:=false) (by kernel_rfl)
def f162:SFn:=⟨false,[some 0],3,[.tmp 2],d9 zb8 (d9 (l5 (l9 zds (l9 zbi (G8 zah (l9 zds (l9 zbu (G8 zah (bg zcH (H9 (E8 80 [zhH,oL0]) zaL))))))))) H7),none⟩
theorem afI:M5 Tryz.prog 162 f162:=D6 (slots:=[0,1,2]) (pure:=false) (rc:=false) (by kernel_rfl)
def f163:SFn:=⟨false,[some 0,some 1],2,[],d9 (l5 (H9 (E8 84 [zat,zhH]) x9)) (d9 (l5 (H9 zcS (l9 zcr (l9 (I6 30 oL0) zfm)))) (l5 (H9 zcS (l9 zcr (l9 (I6 30 oL0) zhi))))),none⟩
theorem afJ:M5 Tryz.prog 163 f163:=D6 (slots:=[0,1]) (pure:=false) (rc:=false) (by kernel_rfl)
def f166:SFn:=⟨false,[some 0],4,[.tmp 3],d9 (l5 zhu) (d9 (d9 zeS (D7 zag zcW G7)) (d9 (l5 (l9 zoD (l9 zbi (G8 zah (l9 zbK (G8 zah zaL)))))) (d9 (l5 (l9 zoD (l9 zbi (G8 zah (bg zky ziD))))) zjI))),none⟩
theorem afK:M5 Tryz.prog 166 f166:=D6 (slots:=[0,9,3,2]) (pure:=false) (rc:=false) (by kernel_rfl)
def f167:SFn:=⟨false,[some 0,some 1,some 3],5,[.tmp 4],zau,none⟩
theorem afL:M5 Tryz.prog 167 f167:=D6 (slots:=[0,1,3,2,6]) (pure:=false) (rc:=false) (by kernel_rfl)
def f168:SFn:=⟨false,[some 0],5,[.tmp 4],d9 ziL (d9 (l5 (l9 zb2 (G8 zbp (H9 (E8 246 [oL0]) zaL)))) (d9 (d9 (l5 (l9 zkH (l9 zgK (l9 (gP oL1 false zbi) (G8 zhk (H9 (gE oL3 false (E8 176 [oL0,O9 (j6.int .i64 (Int.negSucc 999)),zoC])) (l9 zkX (l9 zeE (l9 zgK (l9 (gP oL1 false zbu) (G8 zhk (l9 (gP oL3 false (pIb iGt sGt oL0 zm6)) zk2)))))))))))) zht) (d9 (l5 (l9 za9 (G8 zah (H9 zhz (l9 zfs (G8 znW (H9 znR (l9 zbx (l9 zgR (G8 znW (H9 (gE oL2 true (E8 176 [oL0,zaf,zoQ])) (l9 zbx (l9 zjh (G8 zdd (H9 (gE oL2 true (E8 167 [oL0,O9 (j6.int .i64 (Int.negSucc 1073741823)),zeW])) (l9 zbx (l9 zjf (G8 znW (H9 (gE oL2 true zhO) (l9 zbx znX)))))))))))))))))))) H7))),none⟩
theorem afM:M5 Tryz.prog 168 f168:=D6 (slots:=[0,1,3,21,2]) (pure:=false) (rc:=false) (by kernel_rfl)
def Wd:SC:=d9 (d9 (l5 (l9 zco zeD)) za7) (d9 (C9 1 (d9 (d9 (l5 (l9 zco (G8 zah (l9 (K6 2 oL0 zag) (l9 zbu (G8 zah (H9 zlq zno))))))) (D7 zal zeF G7)) (d9 (M0 0 (dcR zfb 0 sNo (dcP zco sNo (dcR zah 0 sNo (dcP zog sNo (dcP zeQ sNo (dcP zbi sNo (dcR zah 0 sNo (dcP zco sNo (dcR zah 0 sNo (dcP zog sNo (dcP zeQ sNo (dcP zbu sNo (dcR zah 0 sNo (dcE znA ghF sNo (dcP zap zaw U8)))))))))))))))) (d9 zg9 zn8)))) zbP)
def f169:SFn:=⟨false,[some 0],8,[.tmp 7],d9 (l5 (rcL znY zn7 zaX)) (d9 (d9 zdl (C9 0 (J7 Wd))) zde),none⟩
theorem afN:M5 Tryz.prog 169 f169:=D6 (slots:=[0,3,1,9,19,4,35,2]) (pure:=false) (rc:=false) (by kernel_rfl)
def Wh:SC:=d9 (d9 (l5 (l9 zco (G8 zah (l9 zn0 (rcP (pIb iLt sLt zaY oL0) zbe x9))))) (D7 za0 G7 zo0)) (d9 (C9 5 (d9 (M0 0 (dcP zco sNo (dcR zah 0 sNo (dcP zb7 sNo (dcP zeQ sNo (dcP zbi sNo (dcR zah 0 sNo (dcP zdW sNo (dcR zah 0 sNo (dcP zca sNo (dcP zap sNo (dcP zgO sNo (dcR znW 0 sNo (dcP (gP oL2 true zb7) sNo (dcP zkw sNo (dcP zhV sNo (dcR zdO 0 sNo (dcP (gP zok true zfJ) sNo (dcP znv sNo (dcR zfB 0 sNo (dcP (gP zoF true zfJ) sNo (dcP (gP zoG true zbu) sNo (dcR (gRd zoO true zah) 0 sNo (dcE (gE zlJ true (E8 176 [zok,oL3,oL0])) ghF sNo (dcP (dJ zo1 oL0 zpo) zbH U8))))))))))))))))))))))))) (D7 zbh zhM G7))) (l5 (l9 zb7 zha)))
def Wi:SC:=d9 (d9 (l5 (rcP (pIb iLt sLt zaF zag) zaJ x9)) zlu) (d9 (C9 3 (d9 (M0 0 (dcP zdz sNo (dcR zah 0 sNo (dcP zcP sNo (dcP znC sNo (dcP zbi sNo (dcR zah 0 sNo (dcP zdW sNo (dcR zah 0 sNo (dcP zca sNo (dcP zap sNo (dcP zgQ sNo (dcR znW 0 sNo (dcP (gP oL2 true zcP) sNo (dcP (gP oL3 true znC) sNo (dcP zhV sNo (dcP (gP zpm true zbi) sNo (dcR zkx 0 sNo (dcP (gP ze6 true zfJ) sNo (dcP znw sNo (dcR znD 0 sNo (dcP (gP zoG true (pIb iLe sLe oL3 oL0)) sNo (dcP zkM sNo (dcP zap sNo (dcP (gP oL0 true zfJ) sNo (dcP zhl sNo (dcR zcj 0 sNo (dcP (gP oL3 true zdz) sNo (dcR zfC 0 sNo (dcP (gP zpm true zcP) sNo (dcP (gP zok true znC) sNo (dcP (gP ze6 true zbu) sNo (dcP znw sNo (dcR znD 0 sNo (dcP (gP zoG true zlN) sNo (dcP zkM zbb U8)))))))))))))))))))))))))))))))))))) (D7 zaM zhM G7))) (l5 (l9 zcP (l9 zas zct))))
def Wj:SC:=d9 (d9 (l5 (l9 zdz zeD)) za7) (d9 (C9 1 (d9 (l5 (l9 zdz (G8 zah (l9 (K6 4 oL0 zag) (G8 zg8 (rcL zaO zao ziy)))))) (d9 (d9 (l5 (l9 zfJ (G8 zbp (H9 (E8 167 [oL0,zac,zoB]) (l9 zcz (l9 (gP oL0 false (I6 3 zal)) (G8 zbo (H9 (gE oL2 false zhO) (l9 zcY (rcP zbl zaw x9)))))))))) (D7 zar (d9 (l5 (rcP zaT zbJ x9)) H7) G7)) (d9 (l5 (G8 zfb (l9 zdW (G8 zah (l9 zfJ (l9 zbi (G8 zah (H9 (E8 173 [zpm,oL3,oL0]) zbr)))))))) (d9 (d9 (l5 (rcP (pIb iNe sNe zax zac) zaA x9)) (D7 zaD (d9 (l5 (rcP zcK zbJ x9)) H7) G7)) (d9 (d9 (l5 zda) (C9 2 (J7 Wi))) (d9 (l5 (rcP zae zbd x9)) (C9 4 (J7 Wh))))))))) zbP)
def f170:SFn:=⟨false,[some 0],15,[.tmp 14],d9 (l5 (rcL znY zn7 zd2)) (d9 (d9 zdl (C9 0 (J7 Wj))) (d9 ziM H7)),none⟩
theorem afO:M5 Tryz.prog 170 f170:=D6 (slots:=[0,3,1,12,4,29,5,38,6,42,79,7,84,110,2]) (pure:=false) (rc:=false) (by kernel_rfl)
def Wl:SC:=d9 (d9 (l5 (l9 (wV zal) (rcP (pIb iLt sLt zbh oL0) zbJ x9))) (D7 zbw G7 (jv 10))) (d9 (C9 11 (d9 (l5 (l9 zkT (G8 zah (rcP (pIb iGt sGt oL0 zaY) zb5 x9)))) (D7 zbk (l5 (l9 zee (l9 zkT (G8 zah (l9 (pMm false oL2 [oL0]) zc5))))) G7))) (l5 (l9 zci (l9 zas zdU))))
def Wm:SC:=d9 (d9 (l5 (rcP (pIb iLt sLt zaY zjj) zbe x9)) (D7 za0 G7 (jv 8))) (C9 9 (d9 (l5 (rcP (bZ zjj) zcA x9)) (d9 (d9 zfc (C9 10 (J7 Wl))) (d9 (l5 (rcP zee zbd x9)) (d9 (M0 0 (dcP zb7 sNo (dcP (pIb iLt sLt oL0 zjj) sNo (dcP zap sNo (dcR (gRd oL0 true zfb) 0 sNo (dcP (gP oL1 true zdo) sNo (dcR zcj 0 sNo (dcP (gP oL3 true zoH) sNo (dcP (gP zpl true zkv) sNo (dcR (gRd zpm true zn4) 0 sNo (dcP zlB sNo (dcE (gE ze6 true (E8 250 [zok,oL1,oL0])) ghF sNo (dcP zfX sNo (dcP zap zbG U8)))))))))))))) (d9 (l5 (rcP zfQ zdu x9)) (D7 zbt (l5 (l9 zjF (l9 zdo (G8 zah (l9 (K6 8 oL0 zaP) (l9 zbi (G8 zah (l9 (M8 [zaa,zaa] [(0,1,oL0),(1,1,zaY)]) (bg zon (H9 (nX 2 16 ze6 oL0) zir)))))))))) G7)))))))
def Wn:SC:=d9 (d9 (l5 (l9 zdo (G8 zah (l9 zn0 (rcP zgv zbb x9))))) (D7 zaM G7 zns)) (d9 (C9 7 (d9 (l5 (rcP zbS zbd x9)) (C9 8 (J7 Wm)))) zbA)
def Wo:SC:=d9 (d9 (l5 (l9 zeJ (G8 zah (l9 zn0 (rcP (pIb iLt sLt zaD oL0) zaH x9))))) (D7 zaF G7 zo0)) (d9 (C9 5 (l5 (l9 zay (l9 zeJ (G8 zah (l9 (K6 2 oL0 zaD) zcB)))))) (l5 (l9 zdt (l9 zas zb0))))
def Wp:SC:=d9 (d9 (l5 (l9 zfT (G8 zah (l9 zn0 (rcP zjx zaG x9))))) zh2) (d9 (C9 3 (l5 (l9 zay (l9 zfT (G8 zah (l9 znp zcB)))))) zdb)
def Wq:SC:=d9 (d9 (l5 (l9 zdo zeD)) za7) (d9 (C9 1 (l5 (l9 zay (l9 zdo (G8 zah (l9 (K6 8 oL0 zag) zcB)))))) zbP)
def f174:SFn:=⟨false,[some 0],21,[.tmp 20],d9 (l5 (rcL znY zn7 zlI)) (d9 zhS (d9 (d9 zdl (C9 0 (J7 Wq))) (d9 (d9 zc2 (C9 2 (J7 Wp))) (d9 (d9 za8 (C9 4 (J7 Wo))) (d9 (l5 (rcP zbT zoK x9)) (d9 (d9 zb1 (C9 6 (J7 Wn))) (d9 (l5 (rcP zjF zdS x9)) H7))))))),none⟩
theorem afP:M5 Tryz.prog 174 f174:=D6 (slots:=[0,4,1,17,3,5,33,6,49,8,65,9,69,11,73,81,10,12,101,7,2]) (pure:=false) (rc:=false) (by kernel_rfl)
def Ws:SC:=d9 (d9 zfh (D7 zbh G7 zo0)) (d9 (C9 5 (d9 (l5 (l9 zb2 (G8 zah (l9 zmV (G8 zn4 (rcL zaK zbJ zn1)))))) (d9 (M0 0 (dcP zni sNo (dcR zah 0 sNo (dcP znj sNo (dcR zah 0 sNo (dcE zk5 ghF sNo (dcR zcf 1 sNo (dcP znk sNo (dcR zah 1 sNo (dcP zbn sNo (dcE (E8 252 [oL3,oL0]) ghF sNo (dcP zap zcA U8)))))))))))) (d9 (M0 0 (dcP znj sNo (dcR zah 0 sNo (dcP zni sNo (dcR zah 0 sNo (dcE zk5 ghF sNo (dcR zcf 1 sNo (dcP znk sNo (dcR zah 1 sNo (dcP zbn sNo (dcE (E8 252 [oL3,oL0]) ghF sNo (dcP zap zb5 U8)))))))))))) (d9 (l5 (G8 zcf (G8 (P6 8 zbw) (H9 (E8 254 [oL1,oL0]) (rcL zaz zbG zcc))))) (d9 (l5 (l9 zdP (G8 zah (l9 (I6 1 zcl) (G8 zah (l9 (M8 zaI [(0,1,zbk),(1,1,zbE),(2,1,oL0)]) (l9 (I6 0 zcl) (G8 zah (l9 zgV (l9 (M8 zaI [(0,1,zbE),(1,1,zbk),(2,1,oL0)]) (bg (J8 3 2 zaI [(0,3,zpl),(3,3,oL0)]) (H9 (nX 3 24 zoS oL0) zfu)))))))))))) (l5 (l9 zoX (G8 zah (l9 zfK (l9 zfK zcb))))))))))) zcX)
def Wt:SC:=d9 (d9 (l5 (l9 zlH (rcP zg6 zaG x9))) zh2) (d9 (C9 3 (d9 (d9 (M0 0 (dcP zaZ sNo (dcP zay sNo (dcP zeQ sNo (dcP zbi sNo (dcR zah 0 sNo (dcP zf7 sNo (dcR zah 0 sNo (dcP zkY zaH U8))))))))) (D7 zaF (jv 3) G7)) (d9 (M0 0 (dcP zaZ sNo (dcP zay sNo (dcP zeQ sNo (dcP zbu sNo (dcR zah 0 sNo (dcP zhv sNo (dcR zah 0 sNo (dcP zca zaJ U8))))))))) (D7 zaP (d9 (l5 (l9 zdP (G8 zah (l9 zb9 (l9 zjT (G8 zah (l9 zjU (l9 zbu (G8 zah (l9 zhy (l9 (M8 zaI [(0,1,zac),(1,1,zok),(2,1,oL0)]) (l9 zb9 (l9 zjT (G8 zah (l9 zgV (l9 zjU (l9 zbi (G8 zah (l9 zmh (l9 (M8 zaI [(0,1,ze6),(1,1,zac),(2,1,oL0)]) (bg (J8 3 2 zaI [(0,3,zoF),(3,3,oL0)]) (H9 (nX 3 24 (mY 18) oL0) zfu)))))))))))))))))))))) (l5 (l9 zoX (G8 zah (l9 zge (l9 zge zcb)))))) (d9 (M0 0 (dcR zcf 0 sNo (dcP zf7 sNo (dcR zah 0 sNo (dcP zaZ sNo (dcP zay sNo (dcP zaV sNo (dcP (K6 2 oL2 oL0) sNo (dcP zbu sNo (dcR zah 0 sNo (dcP zaZ sNo (dcP zay sNo (dcP zeQ sNo (dcP zbu sNo (dcR zah 0 sNo (dcE (E8 251 [zo1,zoO,zpm,oL0]) ghF sNo (dcP zap zbd U8))))))))))))))))) (d9 (l5 (l9 zdP (G8 zah (l9 zb9 (l9 (M8 zaI [(0,1,zal),(1,1,oL0),(2,1,zac)]) (l9 zb9 (l9 (M8 zaI [(0,1,oL0),(1,1,zal),(2,1,zaY)]) (bg (J8 3 2 zaI [(0,3,oL2),(3,3,oL0)]) (H9 (nX 3 24 zpm oL0) zfu))))))))) (l5 (l9 zoX (G8 zah (l9 zgf (l9 zgf zcb))))))))))) zc9)
def Wu:SC:=d9 (d9 (l5 (l9 zbz (G8 zah (l9 zn0 zkN)))) za7) (d9 (C9 1 (d9 (l5 (l9 zbz (G8 zah (l9 znS zcR)))) (d9 zba (C9 2 (J7 Wt))))) zcn)
def f175:SFn:=⟨false,[some 0],19,[.cell 18 (some 2)],d9 (l5 (rcL znY zpn (rcL (dO [Z,Z]) zdu x9))) (d9 (l5 (rcL (dO [Z,Z]) zbb x9)) (d9 (l5 (G8 zcf (H9 (E8 174 [oL0]) za5))) (d9 (d9 zd5 (C9 0 (J7 Wu))) (d9 (d9 zfa (C9 4 (J7 Ws))) (d9 (l5 (G8 (P6 2 zaM) (H9 (L9 2 zbt oL0) x9))) H7))))),none⟩
theorem afQ:M5 Tryz.prog 175 f175:=D6 (slots:=[0,1,5,20,7,4,31,6,41,49,3,8,9,125,10,12,11,13,2]) (pure:=false) (rc:=false) (by kernel_rfl)
def f176:SFn:=⟨false,[some 0,some 1,some 2],4,[.tmp 3],zcM,none⟩
theorem afR:M5 Tryz.prog 176 f176:=D6 (slots:=[0,1,2,6]) (pure:=false) (rc:=false) (by kernel_rfl)
def f183:SFn:=⟨false,[some 0],3,[.tmp 2],d9 zoM (d9 ze8 (d9 (l5 (bg (J8 1 0 [zaa] []) (H9 (nX 1 8 oL0 zat) zaL))) H7)),none⟩
theorem afS:M5 Tryz.prog 183 f183:=D6 (slots:=[0,4,2]) (pure:=false) (rc:=false) (by kernel_rfl)
def f186:SFn:=⟨false,[some 0,some 1],10,[.tmp 9],d9 zb1 (d9 (l5 (H9 (E8 267 [zat]) zaL)) (d9 (l5 (H9 (E8 267 [zag]) znX)) (d9 (d9 zfd (D7 zak (d9 (d9 zku (D7 zar zdf G7)) zez) G7)) (d9 (d9 zgG (D7 zax zeG G7)) (d9 (d9 (l5 (rcP (pIb iLt sLt zat zag) zaA x9)) (D7 zaD zez G7)) (d9 (d9 (l5 (rcP (pIb iGt sGt zat zag) zaH x9)) zfO) zdf)))))),none⟩
theorem afT:M5 Tryz.prog 186 f186:=D6 (slots:=[0,1,5,11,6,12,13,16,19,4]) (pure:=false) (rc:=false) (by kernel_rfl)
def f193:SFn:=⟨false,[some 0,some 1],5,[.tmp 4],d9 (l5 (rcL znY zn7 (rcL zb6 zam zaQ))) (d9 (l5 (l9 zoe (G8 zah (l9 zdx (G8 zah (H9 (E8 186 [oL2,oL0]) znX)))))) H7),none⟩
theorem afU:M5 Tryz.prog 193 f193:=D6 (slots:=[0,1,2,3,4]) (pure:=false) (rc:=false) (by kernel_rfl)
def f204:SFn:=⟨false,[some 0,some 1],3,[.tmp 2],d9 zeb (d9 (l5 (H9 (E8 275 [zat,zag]) zeL)) H7),none⟩
theorem afV:M5 Tryz.prog 204 f204:=D6 (slots:=[0,1,4]) (pure:=false) (rc:=false) (by kernel_rfl)
def f205:SFn:=⟨false,[some 0,some 2],4,[.tmp 3],d9 zdL (d9 (l5 (l9 za9 (G8 zah (G8 (kI zai) (l9 zkZ zaU))))) H7),none⟩
theorem afW:M5 Tryz.prog 205 f205:=D6 (slots:=[0,2,1,3]) (pure:=false) (rc:=false) (by kernel_rfl)
def MH:SC:=d9 za3 (d9 za7 (d9 (C9 1 (d9 zop (d9 (l5 (l9 zmq (G8 zah (rcP (pIb iEq sEq zal oL0) zaG x9)))) zn8))) zaR))
def f210:SFn:=⟨false,[some 0,some 4],8,[.tmp 7],d9 za8 (d9 (d9 zcg (C9 0 (J7 MH))) zcp),none⟩
theorem afX:M5 Tryz.prog 210 f210:=D6 (slots:=[0,8,7,9,1,5,16,4]) (pure:=false) (rc:=false) (by kernel_rfl)
def f211:SFn:=⟨true,[some 0,some 1],10,[.tmp 8,.tmp 9],d9 (l5 (rcL znY zn7 (rcL zb6 zaw zfG))) (d9 (d9 (l5 (G8 zfb (H9 zpj zaU))) (d9 (l5 (rcP (pIb iNe sNe zak zac) zao x9)) (D7 zal (d9 (l5 (rcP zae zaH (rcP zof zaJ x9))) H7) G7))) (d9 (M0 0 (dcR zfb 0 sNo (dcE (E8 232 [oL0]) ghF sNo (dcR zkO 1 sNo (dcE (E8 283 [oL1,oL0]) ghF sNo znl))))) (d9 (d9 zgY zd6) (d9 (l5 (l9 zjs (rcP zap zaH zaW))) H7)))),none⟩
theorem afY:M5 Tryz.prog 211 f211:=D6 (slots:=[0,1,2,6,11,3,7,18,4,5]) (pure:=true) (rc:=false) (by kernel_rfl)
def f213:SFn:=⟨true,[some 0],8,[.cell 4 (some 2),.tmp 6,.tmp 7],d9 (l5 (rcL znY zpn (rcL zmT zao (rcP zbT zaG zaX)))) (d9 (d9 (l5 (G8 zcf zk1)) (d9 zbF (D7 zak (d9 (l5 (l9 (M8 [zaa,Z] []) (H9 znq (rcP zbT zaG (rcP za6 zaA x9))))) H7) G7))) (d9 (l5 (G8 zcf (H9 (E8 238 [oL0]) za5))) (d9 (M0 0 (dcP zaZ sNo (dcP zgL sNo (dcP (I6 8 oL0) sNo (dcR zbp 0 sNo (dcE znq ghF sNo (dcP zaZ sNo (dcP zgL sNo (dcP (I6 10 oL0) sNo (dcR zah 1 sNo (dcP zap zaG (dcP zae zaA U8)))))))))))) H7))),none⟩
theorem bB:M5 Tryz.prog 213 f213:=D6 (slots:=[0,1,5,10,2,6,3,4]) (pure:=true) (rc:=false) (by kernel_rfl)
def Wv:SC:=d9 za3 (d9 za7 (d9 (C9 1 (d9 (l5 (l9 zf1 (G8 zah zct))) (l5 (l9 zaZ (G8 zkP (G8 (kI zaD) (H9 (E8 113 [oL1,oL0,zaF,zaP]) (bg zbg (H9 zko za5))))))))) zaR))
def f216:SFn:=⟨false,[some 0,some 9,some 6,some 7],11,[.tmp 10],d9 (l5 (rcP zbT zbb x9)) (d9 zfR (d9 (d9 zbL (C9 0 (J7 Wv))) (d9 (l5 (H9 (E8 217 [zar]) x9)) (d9 (l5 (rcP zaZ zbb x9)) H7)))),none⟩
theorem afZ:M5 Tryz.prog 216 f216:=D6 (slots:=[0,12,11,13,10,7,2,3,9,1,6]) (pure:=false) (rc:=false) (by kernel_rfl)
def f217:SFn:=⟨false,[some 0],2,[],d9 (l5 (l9 zpp zn2)) (l5 (l9 (su .u64 zag) (H9 (E8 270 [oL0]) (H9 (E8 288 [zat,zac,zag,oL0]) x9)))),none⟩
theorem ag0:M5 Tryz.prog 217 f217:=D6 (slots:=[0,2]) (pure:=false) (rc:=false) (by kernel_rfl)
def f220:SFn:=⟨false,[some 2,some 0],5,[.tmp 4],d9 zhS (d9 (d9 zdr (D7 zag (l5 (l9 (vP 9 (O9 (j6.str [99,97,110,110,111,116,32,98,101,32,110,101,103,97,116,105,118,101]))) zoV)) G7)) (d9 (d9 (l5 (l9 zob (l9 (Uq zai) (l9 zmS (l9 (pIb vg aM oL1 oL0) (l9 zmh zov)))))) (d9 (l5 (rcP (pIb iGt sGt zat zac) zam x9)) (D7 zak (l5 (l9 za6 (l9 za6 (l9 (Uq oL0) (bg (lSl 1 oL2 none (some oL0)) (H9 (NA 1 [zaa] 8 oL0 zat) (l9 za6 (l9 zn0 (bg (lSl 1 oL2 none (some oL0)) zaL))))))))) G7))) zjJ)),none⟩
theorem ag1:M5 Tryz.prog 220 f220:=D6 (slots:=[1,6,0,16,4]) (pure:=false) (rc:=false) (by kernel_rfl)
def f223:SFn:=⟨false,[some 0,some 1],3,[.tmp 2],d9 zeb (d9 (l5 (H9 (E8 210 [zat,zag]) zeL)) H7),none⟩
theorem ag2:M5 Tryz.prog 223 f223:=D6 (slots:=[0,1,4]) (pure:=false) (rc:=false) (by kernel_rfl)
def f224:SFn:=⟨false,[some 0,some 4],7,[.tmp 6],d9 (l5 (rcL znY zpn zbD)) (d9 (d9 (l5 (G8 zhQ (H9 (E8 72 [oL0]) zaL))) (d9 zbF (D7 zak (d9 zk6 H7) G7))) (d9 (d9 (l5 (G8 zhQ (H9 (E8 291 [oL0,zal]) (rcP zcz zaw x9)))) (D7 zar (d9 zjc H7) G7)) (d9 zc1 H7))),none⟩
theorem ag3:M5 Tryz.prog 224 f224:=D6 (slots:=[0,2,5,9,1,14,4]) (pure:=false) (rc:=false) (by kernel_rfl)
def f228:SFn:=⟨false,[some 0,some 1,some 3],5,[.tmp 4],zau,none⟩
theorem ag4:M5 Tryz.prog 228 f228:=D6 (slots:=[0,1,3,2,6]) (pure:=false) (rc:=false) (by kernel_rfl)
def Ir:SC:=d9 zch (d9 zn6 (d9 (C9 1 (d9 (l5 (l9 zh4 (G8 zn4 (rcL zaE zaG (rcP za6 zaH (H9 (L9 8 oL1 oL2) x9)))))) (d9 (d9 (l5 (G8 zkP (H9 (E8 294 [oL0]) zmX))) (D7 zaD (d9 (l5 (rcP zaT zbb x9)) H7) G7)) (d9 (M0 0 (dcP zcP sNo (dcP zbQ sNo (dcP zap sNo (dcP (gP oL0 true zkE) sNo (dcR znW 0 sNo (dcP zmY sNo (dcR zn5 0 sNo (dcP (gP zpl true zcP) sNo (dcP (gP zpm true zaV) sNo (dcP (gP zok true (K6 8 oL2 oL0)) sNo (dcP znv sNo (dcR zfB 0 sNo (dcP (gP zoF true zlN) sNo (dcP zix zaJ U8))))))))))))))) (D7 zaP (d9 (l5 (rcP zgw zbb x9)) H7) G7))))) zbq))
def f229:SFn:=⟨false,[some 0],11,[.tmp 10],d9 (l5 (rcL znY zpn zfF)) (d9 (d9 zcG (C9 0 (J7 Ir))) (d9 ziN H7)),none⟩
theorem ag5:M5 Tryz.prog 229 f229:=D6 (slots:=[0,1,8,7,9,6,4,15,3,29,2]) (pure:=false) (rc:=false) (by kernel_rfl)
def MI:SC:=d9 zch (d9 zn6 (d9 (C9 1 (d9 (l5 (l9 zh4 zcR)) (l5 (l9 zf7 (G8 zah (G8 (P6 8 zaD) (H9 (gU bn 1 zax oL1 oL0) x9))))))) zbq))
def f230:SFn:=⟨false,[some 0],9,[.tmp 8],d9 (l5 (rcL znY zpn (rcP (bZ zjn) zaH x9))) (d9 (l5 (bg zH zbr)) (d9 (d9 zcG (C9 0 (J7 MI))) ziQ)),none⟩
theorem ag6:M5 Tryz.prog 230 f230:=D6 (slots:=[0,1,10,9,11,8,3,5,2]) (pure:=false) (rc:=false) (by kernel_rfl)
def f231:SFn:=⟨false,[some 0,some 1],6,[.tmp 5],d9 (l5 (rcL znY zam (rcL zb6 zn7 (rcP (bZ (O9 j6.nilFunc)) zaw x9)))) (d9 (l5 (l9 (nY (.func 295) [] [zai]) (rcL (dO [j6.nilFunc]) zao zbm))) (d9 (l5 (l9 (nY (.func 298) [] [zak,zal,zai]) za5)) H7)),none⟩
theorem ag7:M5 Tryz.prog 231 f231:=D6 (slots:=[0,1,3,2,5,4]) (pure:=false) (rc:=false) (by kernel_rfl)
def MJ:SC:=d9 (l5 (rcP (pIb iLt sLt zaD zaF) zaJ x9)) (d9 zlu (d9 (C9 3 (d9 (l5 (l9 (K6 1 zaM zaD) (G8 zah zow))) (l5 (l9 zb7 (l9 zkE (G8 zah (l9 (M8 [zaa,zaa] [(0,1,oL0),(1,1,za0)]) (bg zon (H9 zmg zcu))))))))) (l5 (l9 (pIb fq aL zaD zaf) zb0))))
def MK:SC:=d9 zch (d9 zn6 (d9 (C9 1 (d9 (l5 (l9 zh4 zcU)) (d9 (l5 (G8 zcf (G8 zkP (rcE (E8 301 [oL1,oL0]) zbb (rcP zn0 zaH zaX))))) (C9 2 (J7 MJ))))) zbq))
def f232:SFn:=⟨true,[some 0],14,[.tmp 13],d9 (l5 (rcL znY zpn (rcP zbT zbH x9))) (d9 (l5 zma) (d9 (d9 zcG (C9 0 (J7 MK))) (d9 (l5 (rcP zb7 zbH x9)) H7))),none⟩
theorem ag8:M5 Tryz.prog 232 f232:=D6 (slots:=[0,1,11,10,12,9,5,19,18,20,17,3,7,2]) (pure:=true) (rc:=false) (by kernel_rfl)
def f239:SFn:=⟨false,[some 2,some 0,some 3],5,[.tmp 4],d9 zba (d9 (d9 zg4 (D7 zag (d9 zba H7) G7)) (d9 (M0 0 (dcP za6 sNo (dcP zgL sNo (dcP (I6 7 oL0) sNo (dcR zah 0 sNo (dcP zob sNo (dcP zbK sNo (dcR zah 0 sNo (dcP zof sNo (dcP zid sNo (dcE (E8 283 [zpm,oL0]) ghF sNo (dcP zas sNo zhC)))))))))))) H7)),none⟩
theorem ag9:M5 Tryz.prog 239 f239:=D6 (slots:=[1,9,0,2,6]) (pure:=false) (rc:=false) (by kernel_rfl)
def f240:SFn:=⟨false,[some 1,some 0],4,[.tmp 3],d9 (l5 (rcL znY zn7 zja)) (d9 (l5 (H9 (E8 183 [zag]) (l9 (nY (.func 307) [] [zai]) (H9 (E8 306 [oL1,oL0]) zaU)))) H7),none⟩
theorem aga:M5 Tryz.prog 240 f240:=D6 (slots:=[1,0,3,4]) (pure:=false) (rc:=false) (by kernel_rfl)
def f241:SFn:=⟨false,[some 0,some 2,some 3],10,[.tmp 8,.tmp 9],d9 (l5 (rcL znY zpn zfG)) (d9 (d9 (l5 (G8 zos (bg (J8 1 2 [zaa] [(0,1,zai),(1,1,zak)]) (H9 (E8 286 [oL1,oL0]) znX)))) (d9 zhb (D7 zar (d9 (l5 (rcP zae zaH (rcP zay zaJ x9))) H7) G7))) (d9 (l5 (G8 zos (H9 (E8 308 [oL0,zjn,zai]) (l9 (K6 1 oL0 zak) zfe)))) (d9 (d9 (l5 (rcP (pIb iEq sEq zax zhc) zaA x9)) zd6) (d9 (l5 (rcP zcK zaH zaW)) H7)))),none⟩
theorem agb:M5 Tryz.prog 241 f241:=D6 (slots:=[0,3,1,2,8,16,9,25,6,7]) (pure:=false) (rc:=false) (by kernel_rfl)
def f243:SFn:=⟨false,[some 0],3,[.tmp 2],d9 zeb (d9 (l5 (H9 (E8 313 [zat,O9 Z]) (l9 zcm (l9 zcq (l9 (pExt oL2 2) zn2))))) (d9 (l5 (l9 (pIb iEq sEq zag zac) zaL)) H7)),none⟩
theorem agc:M5 Tryz.prog 243 f243:=D6 (slots:=[0,5,2]) (pure:=false) (rc:=false) (by kernel_rfl)
def f246:SFn:=⟨false,[some 0],4,[.tmp 3],d9 zdL (d9 (d9 (l5 (l9 zbv (G8 zah (l9 zld (l9 ziT (G8 zbo (l9 zi3 (l9 zcC (l9 zgI (G8 zbo (l9 (gP oL2 false (pIb iLt sLt oL0 (O9 (j6.int .i64 (Int.negSucc 2147483646))))) (l9 zcC (l9 zgI (G8 zbo (l9 zi3 zgn))))))))))))))) (D7 zai (d9 (l5 zcD) H7) G7)) (d9 (M0 0 (dcP za9 sNo (dcR zah 0 sNo (dcE (E8 318 [oL0]) ghF sNo (dcP zbv sNo (dcR zah 1 sNo (dcE (E8 317 [oL2,oL0]) ghF sNo (dcP zd7 sNo zj7)))))))) H7)),none⟩
theorem agd:M5 Tryz.prog 246 f246:=D6 (slots:=[0,1,20,2]) (pure:=false) (rc:=false) (by kernel_rfl)
def Ww:SC:=d9 (d9 (l5 (l9 ziu (G8 zah (l9 zn0 (rcP (pIb iLt sLt zaM oL0) zbd x9))))) zlv) (d9 (C9 3 (d9 (M0 0 (dcP ziu sNo (dcR zah 0 sNo (dcP zc7 sNo (dcP zeQ sNo (dcP zbi sNo (dcR zah 0 sNo (dcP zoe sNo (dcR zah 0 sNo (dcP zca sNo (dcP zap sNo (dcP (gP oL0 true ziu) sNo (dcR znW 0 sNo (dcP (gP oL2 true zc7) sNo (dcP zkw sNo (dcP zhV sNo (dcR zdO 0 sNo (dcP (gP zok true zof) sNo (dcP (gP ze6 true zkZ) sNo (dcP zfX zbe U8)))))))))))))))))))) (D7 za0 zf8 G7))) (l5 (l9 zc7 (l9 zas zcI))))
def Wx:SC:=d9 (d9 (l5 (l9 ziv (G8 zah (l9 zn0 zjV)))) zeq) (d9 (C9 1 (d9 (l5 (l9 ziv (G8 zah (l9 znp zbO)))) (d9 (M0 0 (dcP zf3 sNo (dcR zah 0 sNo (dcP zof sNo (dcP zkZ sNo (dcP zap sNo (dcP (gP oL0 true ze3) sNo (dcR znW 0 sNo (dcP (gP oL2 true zhn) sNo (dcR zn5 0 sNo (dcE (gE zpl true zk5) ghF sNo (dcP (gP zpm true zoe) sNo (dcR zkx 1 sNo (dcP (gP ze6 true zca) sNo (dcP (gP zoS true zap) sNo (dcP (gP oL0 false zhn) sNo (dcR zbo 0 sNo (dcP (gP oL2 false ze3) sNo (dcR zlw 0 sNo (dcE (gE zpl false zk5) ghF sNo (dcP (gP zpm false zoe) sNo (dcR (gRd zok false zah) 1 sNo (dcP (gP ze6 false zca) sNo (dcP (gP (mY 17) true (dJ zoS zoE oL0)) sNo (dcP (dJ (mY 18) oL0 zpo) zaJ U8))))))))))))))))))))))))) (D7 zaP zf8 G7)))) zdb)
def f250:SFn:=⟨false,[some 0,some 1,some 3],14,[.tmp 13],d9 (l5 (rcL znY zaG (rcL zb6 zn7 zl5))) (d9 (d9 (l5 (l9 zor (G8 zah zkh))) (D7 zal zf8 G7)) (d9 (d9 zc2 (C9 0 (J7 Wx))) (d9 (d9 ziN (C9 2 (J7 Ww))) (d9 (l5 zl5) H7)))),none⟩
theorem agf:M5 Tryz.prog 250 f250:=D6 (slots:=[0,1,4,2,13,7,3,18,8,49,9,54,75,6]) (pure:=false) (rc:=false) (by kernel_rfl)
def f267:SFn:=⟨false,[some 0],2,[.tmp 1],d9 zd9 (d9 (l5 (l9 (pIb iNe sNe zat zat) zn2)) H7),none⟩
theorem agh:M5 Tryz.prog 267 f267:=D6 (slots:=[0,2]) (pure:=false) (rc:=false) (by kernel_rfl)
def f270:SFn:=⟨false,[some 0],2,[.tmp 1],d9 zdl (d9 (D7 zpo (d9 (l5 (l9 (su .u32 zat) (H9 (E8 343 [oL0]) zn2))) H7) G7) (d9 (l5 (H9 (E8 344 [zat]) zn2)) H7)),none⟩
theorem agi:M5 Tryz.prog 270 f270:=D6 (slots:=[0,2]) (pure:=false) (rc:=false) (by kernel_rfl)
def Wy:SC:=zby
def f275:SFn:=⟨false,[some 0,some 4],8,[.tmp 7],d9 za8 (d9 (d9 zcg (C9 0 (J7 Wy))) zcp),none⟩
theorem agj:M5 Tryz.prog 275 f275:=D6 (slots:=[0,8,7,9,1,5,16,4]) (pure:=false) (rc:=false) (by kernel_rfl)
def f282:SFn:=⟨false,[some 0],7,[.tmp 5,.tmp 6],d9 (l5 (rcL znY zpn (rcP znZ zaw zbD))) (d9 (d9 zfP (d9 zbF (D7 zak (d9 (l5 (rcP znZ zaw zh3)) H7) G7))) (d9 (l5 (G8 zos (H9 znt (l9 zcm (l9 zcq znX))))) (d9 (l5 (rcP zay zaw zbD)) H7))),none⟩
theorem agk:M5 Tryz.prog 282 f282:=D6 (slots:=[0,1,4,14,7,2,3]) (pure:=false) (rc:=false) (by kernel_rfl)
def Wz:SC:=d9 zch (d9 zn6 (d9 (C9 1 (d9 zk6 (d9 (M0 0 (dcR zkO 0 sNo (dcP zog sNo (dcP zcK sNo (dcP zeQ sNo (dcR zbp 0 sNo (dcP (pEq (mZ [.i,.i]) zpl oL0) zaA U8))))))) (D7 zaD ziQ G7)))) zbq))
def f283:SFn:=⟨false,[some 1,some 0],9,[.tmp 8],d9 (l5 (rcL znY zaw zda)) (d9 (d9 (l5 (rcP zpt zam zbB)) (C9 0 (J7 Wz))) (d9 (l5 (rcP zbS zaH x9)) H7)),none⟩
theorem agl:M5 Tryz.prog 283 f283:=D6 (slots:=[1,0,8,7,9,3,5,16,4]) (pure:=false) (rc:=false) (by kernel_rfl)
end
end Go.Proofs.YtfnlnpllpfhhnaaGreatDoor.TT

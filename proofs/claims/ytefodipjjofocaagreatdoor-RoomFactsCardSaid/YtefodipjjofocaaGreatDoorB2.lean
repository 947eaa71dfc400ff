/- The tables: each function of the program is the code that stands here; no condition. -/
import Derived.Test.YtefodipjjofocaaGreatDoorB0
import Derived.KernelRfl
import Derived.Test.YtefodipjjofocaaGreatDoorProg
set_option linter.unusedSimpArgs false
set_option linter.unusedVariables false
namespace Go.Proofs.YtefodipjjofocaaGreatDoor.TT
open Go Go.AM
set_option maxRecDepth 100000
noncomputable section
def f98:SFn:=⟨false,[some 0,some 1,some 3],5,[.tmp 4],zaQ,none⟩
theorem auH:I8 Tryz.prog 98 f98:=r9 (slots:=[0,1,3,2,6]) (pure:=false) (rc:=false) (by kernel_rfl)
def f99:SFn:=⟨false,[some 0],5,[.tmp 4],d9 zmd (d9 (j3 (l9 zdi (D6 zsd (F4 (D5 170 [oL0]) zaN)))) (d9 (d9 (j3 (l9 (uh zal) (l9 zjJ (l9 (gP oL1 false zcu) (D6 zkB (F4 (gE oL3 false (D5 107 [oL0,M0 (l8.int .i64 (Int.negSucc 999)),zsY])) (l9 zl8 (l9 zfx (l9 zjJ (l9 (gP oL1 false zc4) (D6 zkB (l9 (gP oL3 false (pIb iGt sGt oL0 zfr)) zop)))))))))))) zkK) (d9 (j3 (l9 zbz (D6 zan (F4 zkS (l9 zh4 (D6 zsf (F4 zr4 (l9 zcl (l9 zjW (D6 zsf (F4 (gE oL2 true (D5 107 [oL0,zae,ztK])) (l9 zcl (l9 zmG (D6 zeP (F4 (gE oL2 true (D5 98 [oL0,M0 (l8.int .i64 (Int.negSucc 1073741823)),zg5])) (l9 zcl (l9 zmH (D6 zsf (F4 (gE oL2 true zlf) (l9 zcl zsj)))))))))))))))))))) D7))),none⟩
theorem auI:I8 Tryz.prog 99 f99:=r9 (slots:=[0,1,3,21,2]) (pure:=false) (rc:=false) (by kernel_rfl)
def Hr:SC:=d9 (d9 (j3 (l9 zdR zgI)) zaZ) (d9 (p8 1 (d9 (d9 (j3 (l9 zdR (D6 zan (l9 (H8 2 oL0 zai) (l9 zc4 (D6 zan (F4 zoR znw))))))) (x9 zak zgL A9)) (d9 (H7 0 (dcR ze2 0 sNo (dcP zdR sNo (dcR zan 0 sNo (dcP za2 sNo (dcP zsv sNo (dcP zcu sNo (dcR zan 0 sNo (dcP zdR sNo (dcR zan 0 sNo (dcP za2 sNo (dcP zsv sNo (dcP zc4 sNo (dcR zan 0 sNo (dcE zrx sNo (dcP zav zaz K9)))))))))))))))) (d9 zej zce)))) zbf)
def f100:SFn:=⟨false,[some 0],8,[.tmp 7],d9 (j3 (rcL zse zsp zbh)) (d9 (d9 zdY (p8 0 (F7 Hr))) zeS),none⟩
theorem adH:I8 Tryz.prog 100 f100:=r9 (slots:=[0,3,1,9,19,4,35,2]) (pure:=false) (rc:=false) (by kernel_rfl)
def Sk:SC:=d9 (d9 (j3 (l9 zdR (D6 zan (l9 zsl (rcP (pIb iLt sLt za1 oL0) za5 o8))))) (x9 za0 A9 ztH)) (d9 (p8 5 (d9 (H7 0 (dcP zdR sNo (dcR zan 0 sNo (dcP zcg sNo (dcP zsv sNo (dcP zcu sNo (dcR zan 0 sNo (dcP zfS sNo (dcR zan 0 sNo (dcP zdm sNo (dcP zav sNo (dcP zjS sNo (dcR zsf 0 sNo (dcP (gP oL2 true zcg) sNo (dcP ztb sNo (dcP zli sNo (dcR zgo 0 sNo (dcP (gP zsC true ziB) sNo (dcP zrv sNo (dcR zij 0 sNo (dcP (gP zum true ziB) sNo (dcP (gP zuo true zc4) sNo (dcR (gRd zut true zan) 0 sNo (dcE (gE zur true (D5 107 [zsC,oL3,oL0])) sNo (dcP zuu zby K9))))))))))))))))))))))))) (x9 zbl zk8 A9))) (j3 (l9 zcg zko)))
def Sl:SC:=d9 (d9 (j3 (rcP (pIb iLt sLt zaD zai) zaJ o8)) zkN) (d9 (p8 3 (d9 (H7 0 (dcP zfn sNo (dcR zan 0 sNo (dcP zbx sNo (dcP zn2 sNo (dcP zcu sNo (dcR zan 0 sNo (dcP zfS sNo (dcR zan 0 sNo (dcP zdm sNo (dcP zav sNo (dcP zjT sNo (dcR zsf 0 sNo (dcP (gP oL2 true zbx) sNo (dcP zrB sNo (dcP zli sNo (dcP (gP zuk true zcu) sNo (dcR zn3 0 sNo (dcP (gP zsJ true ziB) sNo (dcP znR sNo (dcR zly 0 sNo (dcP (gP zuo true (pIb iLe sLe oL3 oL0)) sNo (dcP zlV sNo (dcP zav sNo (dcP (gP oL0 true ziB) sNo (dcP zkD sNo (dcR zdD 0 sNo (dcP (gP oL3 true zfn) sNo (dcR zif 0 sNo (dcP (gP zuk true zbx) sNo (dcP (gP zsC true zn2) sNo (dcP (gP zsJ true zc4) sNo (dcP znR sNo (dcR zly 0 sNo (dcP (gP zuo true zpd) sNo (dcP zlV zaT K9)))))))))))))))))))))))))))))))))))) (x9 zaP zk8 A9))) zeq)
def Ht:SC:=d9 (d9 (j3 (l9 zfn zgI)) zaZ) (d9 (p8 1 (d9 (j3 (l9 zfn (D6 zan (l9 (H8 4 oL0 zai) (D6 zhD (rcL za7 zaq zlX)))))) (d9 (d9 (j3 (l9 ziB (D6 zsd (F4 (D5 98 [oL0,zac,zsW]) (l9 zsr (l9 (gP oL0 false (F8 3 zak)) (D6 zbP (F4 (gE oL2 false zlf) (l9 zff (rcP zcr zaz o8)))))))))) (x9 zar (d9 (j3 (rcP zaV zbM o8)) D7) A9)) (d9 (j3 (D6 ze2 (l9 zfS (D6 zan (l9 ziB (l9 zcu (D6 zan (F4 (D5 104 [zuk,oL3,oL0]) zbm)))))))) (d9 (d9 zdp (x9 zaC (d9 (j3 (rcP zaU zbM o8)) D7) A9)) (d9 (d9 zhs (p8 2 (F7 Sl))) (d9 (j3 zdU) (p8 4 (F7 Sk))))))))) zbf)
def f101:SFn:=⟨false,[some 0],15,[.tmp 14],d9 (j3 (rcL zse zsp zcZ)) (d9 (d9 zdY (p8 0 (F7 Ht))) (d9 (j3 zcZ) D7)),none⟩
theorem adI:I8 Tryz.prog 101 f101:=r9 (slots:=[0,3,1,12,4,29,5,38,6,42,79,7,84,110,2]) (pure:=false) (rc:=false) (by kernel_rfl)
def Hu:SC:=d9 (d9 (j3 (l9 (lQ zak) (rcP (pIb iLt sLt zbl oL0) zbM o8))) (x9 zbB A9 (aA 10))) (d9 (p8 11 (d9 (j3 (l9 zof (D6 zan (rcP (pIb iGt sGt oL0 za1) zbH o8)))) (x9 zbj (j3 (l9 zdZ (l9 zof (D6 zan (l9 zqN zd0))))) A9))) (j3 (l9 ztG (l9 zax ztx))))
def Hw:SC:=d9 (d9 (j3 (rcP (pIb iLt sLt za1 zmI) za5 o8)) (x9 za0 A9 (aA 8))) (p8 9 (d9 (j3 (rcP (aj zmI) zup o8)) (d9 (d9 zhv (p8 10 (F7 Hu))) (d9 (j3 (rcP zdZ za8 o8)) (d9 (H7 0 (dcP zcg sNo (dcP (pIb iLt sLt oL0 zmI) sNo (dcP zav sNo (dcR (gRd oL0 true ze2) 0 sNo (dcP (gP oL1 true zeA) sNo (dcR zdD 0 sNo (dcP (gP oL3 true zcy) sNo (dcP (gP zsm true zsQ) sNo (dcR zrr 0 sNo (dcP zo0 sNo (dcE (gE zsJ true (D5 172 [zsC,oL1,oL0])) sNo (dcP zkh sNo (dcP zav zbY K9)))))))))))))) (d9 (j3 (rcP zem zcP o8)) (x9 zbs (j3 (l9 zfE (l9 zeA (D6 zan (l9 (H8 8 oL0 zaL) (l9 zcu (D6 zan (l9 (I9 [zaa,zaa] [(0,1,oL0),(1,1,za1)]) (Q9 zbE (F4 (eF 2 16 zsJ oL0) zlR)))))))))) A9)))))))
def Hy:SC:=d9 (d9 (j3 (l9 zeA (D6 zan (l9 zsl (rcP (pIb iLt sLt zaL oL0) zaT o8))))) (x9 zaP A9 zqv)) (d9 (p8 7 (d9 (j3 (rcP zb9 za8 o8)) (p8 8 (F7 Hw)))) (j3 (l9 zcy (l9 zax zcb))))
def Hz:SC:=d9 (d9 (j3 (l9 ziK (D6 zan (l9 zsl (rcP (pIb iLt sLt zaC oL0) zaE o8))))) zuf) (d9 (p8 5 (j3 (l9 zaG (l9 ziK (D6 zan (l9 (H8 2 oL0 zaC) zdV)))))) (j3 (l9 zdo (l9 zax zcQ))))
def HV:SC:=d9 (d9 (j3 (l9 zm6 zkA)) zlo) (d9 (p8 3 (j3 (l9 zaG (l9 zm6 (D6 zan (l9 zrh zdV)))))) zcB)
def HY:SC:=d9 (d9 (j3 (l9 zeA zgI)) zaZ) (d9 (p8 1 (j3 (l9 zaG (l9 zeA (D6 zan (l9 (H8 8 oL0 zai) zdV)))))) zbf)
def f105:SFn:=⟨false,[some 0],21,[.tmp 20],d9 (j3 (rcL zse zsp zo8)) (d9 zpi (d9 (d9 zdY (p8 0 (F7 HY))) (d9 (d9 zh5 (p8 2 (F7 HV))) (d9 (d9 zbC (p8 4 (F7 Hz))) (d9 (j3 (rcP zbw zcE o8)) (d9 (d9 zdb (p8 6 (F7 Hy))) (d9 zmh D7))))))),none⟩
theorem adJ:I8 Tryz.prog 105 f105:=r9 (slots:=[0,4,1,17,3,5,33,6,49,8,65,9,69,11,73,81,10,12,101,7,2]) (pure:=false) (rc:=false) (by kernel_rfl)
def HZ:SC:=d9 (d9 zhJ zoU) (d9 (p8 5 (d9 (j3 (l9 zdi (D6 zan (l9 zqy (D6 zsk (rcL zaK zbM zcK)))))) (d9 (H7 0 (dcP zq5 sNo (dcR zan 0 sNo (dcP zq6 sNo (dcR zan 0 sNo (dcE zor sNo (dcR zcd 1 sNo (dcP zni sNo (dcR zan 1 sNo (dcP zg1 sNo (dcE (D5 174 [oL3,oL0]) sNo (dcP zav zup K9)))))))))))) (d9 (H7 0 (dcP zq6 sNo (dcR zan 0 sNo (dcP zq5 sNo (dcR zan 0 sNo (dcE zor sNo (dcR zcd 1 sNo (dcP zni sNo (dcR zan 1 sNo (dcP zg1 sNo (dcE (D5 174 [oL3,oL0]) sNo (dcP zav zbH K9)))))))))))) (d9 (j3 (D6 zcd (D6 (J9 8 zbB) (F4 (D5 176 [oL1,oL0]) (rcL zaH zbY zcX))))) (d9 (j3 (l9 zfI (D6 zan (l9 zqi (D6 zan (l9 (I9 za3 [(0,1,zbj),(1,1,zbr),(2,1,oL0)]) (l9 zmo (D6 zan (l9 zog (l9 (I9 za3 [(0,1,zbr),(1,1,zbj),(2,1,oL0)]) (Q9 (H9 3 2 za3 [(0,3,zsm),(3,3,oL0)]) (F4 (eF 3 24 zte oL0) zid)))))))))))) (j3 (l9 zt4 (D6 zan (l9 ziC (l9 ziC zdu))))))))))) zes)
def Ia:SC:=d9 (d9 (j3 (l9 (lQ zar) (rcP zuw zaO o8))) zlo) (d9 (p8 3 (d9 (d9 (H7 0 (dcP zss sNo (dcP zaG sNo (dcP zsv sNo (dcP zcu sNo (dcR zan 0 sNo (dcP zfH sNo (dcR zan 0 sNo (dcP zqM zaE K9))))))))) (x9 zaD (aA 3) A9)) (d9 (H7 0 (dcP zss sNo (dcP zaG sNo (dcP zsv sNo (dcP zc4 sNo (dcR zan 0 sNo (dcP zgx sNo (dcR zan 0 sNo (dcP zdm zaJ K9))))))))) (x9 zaL (d9 (j3 (l9 zfI (D6 zan (l9 zcj (l9 zgv (D6 zan (l9 ziV (l9 zc4 (D6 zan (l9 zkT (l9 (I9 za3 [(0,1,zac),(1,1,zsC),(2,1,oL0)]) (l9 zcj (l9 zgv (D6 zan (l9 zog (l9 ziV (l9 zcu (D6 zan (l9 zpT (l9 (I9 za3 [(0,1,zsJ),(1,1,zac),(2,1,oL0)]) (Q9 (H9 3 2 za3 [(0,3,zum),(3,3,oL0)]) (F4 (eF 3 24 (kE 18) oL0) zid)))))))))))))))))))))) (j3 (l9 zt4 (D6 zan (l9 zi5 (l9 zi5 zdu)))))) (d9 (H7 0 (dcR zcd 0 sNo (dcP zfH sNo (dcR zan 0 sNo (dcP zss sNo (dcP zaG sNo (dcP zaw sNo (dcP zs1 sNo (dcP zc4 sNo (dcR zan 0 sNo (dcP zss sNo (dcP zaG sNo (dcP zsv sNo (dcP zc4 sNo (dcR zan 0 sNo (dcE (D5 173 [zuF,zut,zuk,oL0]) sNo (dcP zav za8 K9))))))))))))))))) (d9 (j3 (l9 zfI (D6 zan (l9 zcj (l9 (I9 za3 [(0,1,zak),(1,1,oL0),(2,1,zac)]) (l9 zcj (l9 (I9 za3 [(0,1,oL0),(1,1,zak),(2,1,za1)]) (Q9 (H9 3 2 za3 [(0,3,oL2),(3,3,oL0)]) (F4 (eF 3 24 zuk oL0) zid))))))))) (j3 (l9 zt4 (D6 zan (l9 zi6 (l9 zi6 zdu))))))))))) zsM)
def Ib:SC:=d9 (d9 (j3 (l9 zcx (D6 zan (l9 zsl ztW)))) zaZ) (d9 (p8 1 (d9 (j3 (l9 zcx (D6 zan (l9 zr9 zee)))) (d9 zcv (p8 2 (F7 Ia))))) zba)
def f106:SFn:=⟨false,[some 0],19,[.cell 18 (some 2)],d9 (j3 (rcL zse zul (rcL (aR [Z,Z]) zcP o8))) (d9 (j3 (rcL (aR [Z,Z]) zaT o8)) (d9 (j3 (D6 zcd (F4 (D5 105 [oL0]) zbq))) (d9 (d9 zc5 (p8 0 (F7 Ib))) (d9 (d9 zhu (p8 4 (F7 HZ))) (d9 (j3 (D6 zq7 (F4 zpM o8))) D7))))),none⟩
theorem adK:I8 Tryz.prog 106 f106:=r9 (slots:=[0,1,5,20,7,4,31,6,41,49,3,8,9,125,10,12,11,13,2]) (pure:=false) (rc:=false) (by kernel_rfl)
def f107:SFn:=⟨false,[some 0,some 1,some 2],4,[.tmp 3],zd6,none⟩
theorem adL:I8 Tryz.prog 107 f107:=r9 (slots:=[0,1,2,6]) (pure:=false) (rc:=false) (by kernel_rfl)
def f110:SFn:=⟨false,[some 0],3,[.tmp 2],d9 zsz (d9 zbA (d9 (j3 (Q9 (H9 32 0 zab []) (F4 (eF 32 304 oL0 zay) zaN))) D7)),none⟩
theorem adM:I8 Tryz.prog 110 f110:=r9 (slots:=[0,4,2]) (pure:=false) (rc:=false) (by kernel_rfl)
def f111:SFn:=⟨false,[some 0,some 1],2,[],j3 (l9 zsV (F4 (D5 177 [zay,oL0,zai]) o8)),none⟩
theorem adN:I8 Tryz.prog 111 f111:=r9 (slots:=[0,1]) (pure:=false) (rc:=false) (by kernel_rfl)
def f112:SFn:=⟨false,[some 0,some 1],5,[.tmp 4],d9 zdj (d9 (H7 0 (dcR zk0 0 sNo (dcE ziJ sNo (dcR zfd 1 sNo (dcE ziJ sNo (dcE (D5 113 [oL2,oL0]) sNo zhr)))))) D7),none⟩
theorem adO:I8 Tryz.prog 112 f112:=r9 (slots:=[0,1,2,3,4]) (pure:=false) (rc:=false) (by kernel_rfl)
def f113:SFn:=⟨false,[some 0,some 1],5,[.tmp 4],d9 zdj (d9 (H7 1 (dcP zsu sNo (dcR zan 0 sNo (dcP zdv sNo (dcR zan 0 sNo (dcE ztZ sNo (dcP zsL sNo (dcR zan 1 sNo (dcP zcJ sNo (dcR zan 1 sNo (dcE ztZ sNo (dcL (H9 1 2 [zaa] [(0,1,zuk),(1,1,oL0)]) 0 sNo (dcE (D5 83 [oL0]) sNo zhr))))))))))))) D7),none⟩
theorem adP:I8 Tryz.prog 113 f113:=r9 (slots:=[0,1,2,3,4]) (pure:=false) (rc:=false) (by kernel_rfl)
def Sn:SC:=d9 (d9 (j3 (l9 (lQ zaC) (rcP (pIb iLt sLt zau oL0) zaE o8))) (x9 zaD A9 zus)) (d9 (p8 3 (d9 (H7 0 (dcP zaG sNo (dcP zdo sNo (dcP zaU sNo (dcP ziz sNo (dcR zsy 0 sNo (dcP zdo sNo (dcP zaU sNo (dcP zaw sNo (dcP znL sNo (dcR zsy 0 sNo (dcE zuv sNo zqz)))))))))))) (x9 zaL (d9 (j3 (l9 (H8 32 zaC zau) (D6 zsy (l9 ziy zst)))) zba) A9))) zeJ)
def Sq:SC:=d9 zcw (d9 (p8 1 (d9 (H7 0 (dcP zaG sNo (dcP zsi sNo (dcP za4 sNo (dcP ziz sNo (dcR zsy 0 sNo (dcP zsi sNo (dcP za4 sNo (dcP zaw sNo (dcP znL sNo (dcR zsy 0 sNo (dcE zuv zaz K9)))))))))))) (x9 zar (d9 (j3 (Q9 zpp zcQ)) (d9 (d9 zh6 (p8 2 (F7 Sn))) (d9 (j3 (Q9 zpp (F4 (nX zab oL0) o8))) (d9 (j3 (Q9 (lSl 32 zay none (some zal)) zck)) D7)))) A9))) zba)
def f114:SFn:=⟨false,[some 0,some 4],11,[.tmp 10],d9 zkz (d9 (d9 ztu (x9 zai znb A9)) (d9 (d9 zgf (p8 0 (F7 Sq))) znb)),none⟩
theorem adQ:I8 Tryz.prog 114 f114:=r9 (slots:=[0,10,5,15,1,28,7,6,35,49,4]) (pure:=false) (rc:=false) (by kernel_rfl)
def f115:SFn:=⟨false,[some 0,some 1],5,[.tmp 4],d9 zjl (d9 (H7 0 (dcR zk0 0 sNo (dcE ziJ sNo (dcR zfd 1 sNo (dcE ziJ sNo (dcP ztf sNo zhr)))))) D7),none⟩
theorem adR:I8 Tryz.prog 115 f115:=r9 (slots:=[0,1,2,3,4]) (pure:=false) (rc:=false) (by kernel_rfl)
def f116:SFn:=⟨false,[some 0,some 1,some 2],8,[.tmp 7],d9 (j3 (rcL zse zaq (rcL zb2 zaz zbh))) (d9 (d9 (j3 (l9 zgE (l9 zm1 (l9 (gP oL1 false (pIb iGt sGt oL0 zsW)) (rcP zfA zam o8))))) (x9 zao zgL A9)) (d9 (d9 (j3 (l9 zfS (l9 zlb (D6 zan (l9 (bH (.func 179) [] [zar]) (F4 (D5 178 [oL1,oL0]) zri)))))) (x9 zau zk9 A9)) zeS)),none⟩
theorem adS:I8 Tryz.prog 116 f116:=r9 (slots:=[0,1,2,12,3,4,18,6]) (pure:=false) (rc:=false) (by kernel_rfl)
def f117:SFn:=⟨true,[some 0],3,[.tmp 2],d9 (j3 (rcL zse zul (rcP zbw zsp o8))) (d9 (j3 (D6 zda (F4 (D5 181 [oL0]) (l9 (bH (.func 182) [] [zai]) (F4 (D5 180 [oL1,oL0]) zaN))))) D7),none⟩
theorem aC:I8 Tryz.prog 117 f117:=r9 (slots:=[0,1,2]) (pure:=true) (rc:=false) (by kernel_rfl)
def Sr:SC:=d9 (d9 (j3 (rcP (pIb iGe sGe zal zac) zam o8)) zaZ) (d9 (p8 1 (d9 (j3 (l9 (H8 1 zak zal) (D6 zan (F4 (D5 184 [oL0,zar]) zbm)))) (d9 (j3 (l9 (pIb iGe sGe zau zac) (l9 zmH (D6 zsf (l9 (gP oL2 true za4) (l9 ztb (l9 zlh (D6 zgo (l9 (gP zsC true zdo) (l9 (gP zsJ true (pIb iLt sLt oL1 oL0)) (rcP zkh zaE o8))))))))))) (x9 zaD (j3 (l9 zgS (D6 zan (l9 (H8 2 oL0 zal) (l9 zc4 (D6 zan (l9 (H8 1 oL0 zau) (D6 zan zbq)))))))) A9)))) (j3 (l9 za4 zla)))
def f118:SFn:=⟨false,[some 0,some 4,some 5,some 7],10,[.tmp 9],d9 zjQ (d9 (d9 (j3 (l9 zgS (D6 zan (l9 zsl zla)))) (p8 0 (F7 Sr))) (d9 (j3 (rcP zss zaJ o8)) D7)),none⟩
theorem adT:I8 Tryz.prog 118 f118:=r9 (slots:=[0,4,9,16,1,2,10,3,36,8]) (pure:=false) (rc:=false) (by kernel_rfl)
def f119:SFn:=⟨false,[some 0,some 1],16,[.cell 8 (some 2),.tmp 15],d9 (j3 (rcL zse zsp (rcL zb2 zam (rcL zaH zaE zet)))) (d9 (d9 (j3 (D6 ze2 (D6 zdT (F4 zos zib)))) (d9 zdz (x9 zar (d9 (j3 (D6 ze2 (D6 zdT (F4 (D5 186 [oL1,oL0]) (l9 zbQ (l9 zbV (rcL zbu zaJ (F4 zmS zrj)))))))) (d9 (d9 zdp (x9 zaC (d9 (j3 (l9 zdd (F4 zjY (rcP zaU zbH o8)))) D7) A9)) (j3 (D6 (J9 7 zaL) (F4 (J4 7 zal oL0) o8))))) A9))) (d9 (j3 (D6 ze2 (D6 zdT (F4 zos (l9 zbQ (l9 zbV zmJ)))))) (d9 (j3 (D6 ze2 (F4 zsa (l9 zbQ (l9 zbV (l9 (pExt oL2 2) (rcL zfR zaT zrN))))))) (d9 (j3 (D6 zq7 (F4 (D5 188 [oL0]) (l9 zbQ (l9 zbV (rcP zb0 zby (rcP zb0 za8 o8))))))) (d9 (d9 (j3 (rcP (pIb iNe sNe za1 zac) za5 o8)) (x9 za0 (d9 (j3 (l9 zdd (F4 zjY (rcP zcg zbH o8)))) D7) A9)) (d9 (j3 (l9 (H8 2 zbl zbB) (D6 zsd (F4 zjY zet)))) D7)))))),none⟩
theorem adU:I8 Tryz.prog 119 f119:=r9 (slots:=[0,1,2,3,7,24,9,32,4,8,12,16,54,15,10,5]) (pure:=false) (rc:=false) (by kernel_rfl)
def Sv:SC:=d9 (j3 (rcP (pIb iLt sLt zc7 zcW) zdJ o8)) (d9 (x9 zfy A9 zqv) (d9 (p8 7 (d9 (j3 (l9 (H8 2 zdL zc7) (D6 zsd (rcL zaH zgk zcX)))) (H7 1 (dcR zec 0 sNo (dcR zkp 0 sNo (dcP (F8 0 zf3) sNo (dcR zan 0 sNo (dcP zqk sNo (dcR zan 0 sNo (dcE zrk sNo (dcP zq8 sNo (dcR zan 1 sNo (dcP zqk sNo (dcR zan 1 sNo (dcP ze4 sNo (dcL zbE 0 sNo (dcE ztQ sNo (dcP zq8 sNo zsT)))))))))))))))))) (j3 (l9 (pIb bG bI zc7 zae) zpO))))
def Sw:SC:=d9 (j3 (rcP (pIb iLt sLt zbr zbR) zcP o8)) (d9 (x9 zbs A9 ztH) (d9 (p8 5 (d9 (j3 (l9 (H8 8 zbt zbr) (D6 zsk (rcL zaK zc6 zcK)))) (d9 (H7 0 (dcP zgm sNo (dcP zql sNo (dcR zan 0 sNo (dcP zms sNo (dcR zan 0 sNo (dcE zmW sNo (dcP zgm sNo (dcP zqm sNo (dcR zan 1 sNo (dcP zms sNo (dcR zan 1 sNo (dcE zmW sNo (dcP zql sNo (dcE znU sNo (dcP zqm sNo zhG)))))))))))))))) (j3 (l9 zq9 (D6 zan (D6 (J9 8 zbT) (Q9 zbc (F4 znK (l9 zq9 zct)))))))))) (j3 (l9 (pIb bG bI zbr zae) zd0))))
def Sy:SC:=d9 zeo (d9 zgw (d9 (p8 3 (d9 (j3 (l9 (H8 4 zbB za1) (D6 zhD (rcL za7 zbH zlX)))) (d9 (j3 (D6 zec (D6 zkp (l9 zmu (D6 zan (l9 zjL (l9 zcu (D6 zan (F4 (D5 118 [zsC,zuk,oL3,oL0]) (l9 zmu zct)))))))))) (j3 (l9 zra (D6 zan (D6 (J9 4 zbj) (Q9 zim (F4 (eF 4 32 oL2 oL0) (l9 zra zct)))))))))) zdG))
def Sz:SC:=d9 zdh (d9 zex (d9 (p8 1 (d9 zfW (H7 1 (dcR zec 0 sNo (dcR zkp 0 sNo (dcP zc1 sNo (dcR zan 0 sNo (dcP ziW sNo (dcR zan 0 sNo (dcE zrk sNo (dcP zrb sNo (dcR zan 1 sNo (dcP ziW sNo (dcR zan 1 sNo (dcP ze4 sNo (dcL zbE 0 sNo (dcE ztQ sNo (dcP zrb sNo zsT)))))))))))))))))) zcp))
def f120:SFn:=⟨true,[some 0,some 1],28,[.cell 27 (some 7)],d9 (j3 (rcL zse zsp (rcL zb2 zaq (rcL zbu zlc o8)))) (d9 (j3 (l9 zsu (D6 zmR (rcL zbu zam zrO)))) (d9 (H7 1 (dcP zeT sNo (dcR zan 0 sNo (dcE (D5 189 [oL0]) sNo (dcP zdv sNo (dcR zsd 1 sNo (dcP (I9 zbg [(0,2,oL0),(2,1,oL2)]) sNo (dcL zbu 0 zaT (dcE zrD sNo K9))))))))) (d9 (j3 (l9 (bH (.func 190) [] [zal,zak]) zf9)) (d9 (d9 (j3 (l9 zeU ziM)) (p8 0 (F7 Sz))) (d9 (d9 (j3 (l9 zfm zeG)) (p8 2 (F7 Sy))) (d9 (d9 (j3 (l9 zha (rcR zan zcE (rcP zsl zbY zfK)))) (p8 4 (F7 Sw))) (d9 (d9 (j3 (l9 zgz (rcR zan zcc (rcP zsl zdB zhQ)))) (p8 6 (F7 Sv))) (d9 (j3 (D6 zq2 (F4 (J4 7 zc8 oL0) o8))) D7)))))))),none⟩
theorem V7:I8 Tryz.prog 120 f120:=r9 (slots:=[0,1,2,5,3,28,27,29,26,9,6,51,50,52,49,11,74,73,75,72,7,13,102,101,103,100,15,4]) (pure:=true) (rc:=false) (by kernel_rfl)
def f121:SFn:=⟨false,[some 0],4,[.tmp 2,.tmp 3],d9 (j3 (rcL zse zul (rcP zbw zsp zcI))) (d9 (j3 (D6 zda (F4 (D5 181 [oL0]) (l9 (bH (.func 193) [] [zai]) (F4 (D5 192 [oL1,oL0]) (l9 zbQ (l9 zbV zn4))))))) D7),none⟩
theorem adV:I8 Tryz.prog 121 f121:=r9 (slots:=[0,1,2,3]) (pure:=false) (rc:=false) (by kernel_rfl)
def SA:SC:=d9 zkx (d9 zkO (d9 (p8 3 (d9 (j3 (l9 (H8 1 za1 zaD) znY)) (j3 (l9 zsR (F4 (eF 1 8 oL0 zbl) zsG))))) ziP))
def SE:SC:=d9 zaS (d9 zaZ (d9 (p8 1 (d9 zdW (d9 (j3 (l9 zss (l9 (lQ zau) (l9 ztg zbq)))) (d9 (j3 (rcP (pIb iLt sLt zar zac) zaB o8)) (x9 zaC (j3 (l9 (uy 9 (M0 (l8.str [108,101,110,32,111,117,116,32,111,102,32,114,97,110,103,101]))) (F4 (zk oL0) o8))) A9))))) zaR))
def f122:SFn:=⟨false,[some 0],15,[.tmp 14],d9 (j3 (rcP zbw zbM o8)) (d9 zh5 (d9 (d9 zbo (p8 0 (F7 SE))) (d9 (j3 (F4 (D5 194 [zuy,zar]) zsG)) (d9 (d9 (j3 (rcP zsi za8 (rcP zsl zaJ zbW))) (p8 2 (F7 SA))) (d9 (j3 (rcP zsR zbM o8)) D7))))),none⟩
theorem adW:I8 Tryz.prog 122 f122:=r9 (slots:=[0,11,10,12,9,3,5,20,27,26,28,25,6,8,2]) (pure:=false) (rc:=false) (by kernel_rfl)
def f123:SFn:=⟨false,[some 0,some 1],5,[.cell 4 (some 8)],d9 zgM (d9 (j3 (D6 zec (l9 (bH (.func 196) [] [zao]) (F4 (D5 195 [oL1,oL0]) zpj)))) D7),none⟩
theorem adX:I8 Tryz.prog 123 f123:=r9 (slots:=[0,1,2,3,4]) (pure:=false) (rc:=false) (by kernel_rfl)
def f124:SFn:=⟨true,[some 0],6,[.tmp 4,.tmp 5],d9 (j3 (rcL zse zul zgl)) (d9 (d9 zeL (d9 za9 (x9 zao (d9 (j3 (rcP zbw zaq (rcP za4 zaz o8))) D7) A9))) (d9 (j3 (D6 zda (F4 (D5 117 [oL0]) zeD))) D7)),none⟩
theorem aM:I8 Tryz.prog 124 f124:=r9 (slots:=[0,1,4,8,2,3]) (pure:=true) (rc:=false) (by kernel_rfl)
def f125:SFn:=⟨true,[some 0,some 2,some 5,some 6],11,[.tmp 9,.tmp 10],d9 (j3 (rcL zse zul ziw)) (d9 (d9 zjE zeu) (d9 (d9 (j3 (D6 zda (F4 (D5 116 [oL0,zar,zau]) zcQ))) (d9 zjP (x9 zaD (d9 (j3 (rcP zaf zaJ (rcP zdo zaT o8))) D7) A9))) (d9 (j3 (D6 zda (F4 (D5 118 [oL0,zal,zar,zau]) (rcP zav zaJ zcA)))) D7))),none⟩
theorem aN:I8 Tryz.prog 125 f125:=r9 (slots:=[0,4,1,10,16,2,3,11,23,8,9]) (pure:=true) (rc:=false) (by kernel_rfl)
def f126:SFn:=⟨true,[some 0,some 2],7,[.cell 5 (some 7),.tmp 6],d9 (j3 (rcL zse zul (rcL zbu zaz zbI))) (d9 (d9 zjE (d9 zdy (x9 zak (d9 (j3 (l9 zhH (F4 zrl zh0))) D7) A9))) (d9 (j3 (D6 zda (F4 zrP (F4 zrl zbI)))) D7)),none⟩
theorem aD:I8 Tryz.prog 126 f126:=r9 (slots:=[0,2,1,6,11,4,5]) (pure:=true) (rc:=false) (by kernel_rfl)
def f127:SFn:=⟨true,[some 0,some 1,some 2],12,[.tmp 10,.tmp 11],d9 (j3 (rcL zse zam (rcL zb2 zaq (rcL zqC zaB (rcP zaf zaT zdU))))) (d9 (j3 (D6 ziD (D6 ziE (Q9 zbE (F4 (D5 199 [oL2,oL0]) (l9 zbQ (l9 zbV (rcP zb0 zaJ zfO)))))))) (d9 (d9 zej (x9 zau (d9 (j3 (rcP zaf zaT zoe)) D7) A9)) (d9 (d9 zgJ (x9 zaD (d9 (j3 (rcP zaf zaT (rcP zaV za8 o8))) D7) A9)) (d9 (H7 0 (dcP zcy sNo (dcR ziE 0 sNo (dcE (D5 201 [oL1,oL0]) sNo (dcR zng 1 sNo (dcE (D5 200 [oL1,oL0]) sNo (dcP zav zaT (dcP zaf za8 K9)))))))) D7)))),none⟩
theorem aO:I8 Tryz.prog 127 f127:=r9 (slots:=[0,1,2,3,4,9,18,5,24,8,6,7]) (pure:=true) (rc:=false) (by kernel_rfl)
def f128:SFn:=⟨false,[some 0],3,[.tmp 2],d9 zsz (d9 zbA (d9 (j3 (Q9 (H9 8 0 zap []) (F4 (eF 8 96 oL0 zay) zaN))) D7)),none⟩
theorem adY:I8 Tryz.prog 128 f128:=r9 (slots:=[0,4,2]) (pure:=false) (rc:=false) (by kernel_rfl)
def f129:SFn:=⟨true,[some 0,some 1],17,[.cell 6 (some 2),.tmp 16],d9 (j3 (rcL zse zam (rcL zb2 zsp (rcL zaH zaO zfK)))) (d9 (j3 (l9 zfn zgP)) (d9 (j3 (D6 ziD (D6 zec (F4 (D5 202 [oL1,oL0]) (l9 zbQ (l9 zbV (rcL zbu zaB (F4 zmS (rcP zsZ zaq o8))))))))) (d9 (d9 zdz (x9 zar zdA A9)) (d9 (j3 (D6 (J9 7 zaC) (F4 (D5 203 [oL0]) zbX))) (d9 (j3 (l9 (aZ zaD) (l9 zoD (D6 zsd (rcL zfR zaJ zcX))))) (d9 (j3 (l9 ziW (D6 zan (l9 ziW (D6 zan (l9 zsl (l9 zfX (Q9 (lSl 3 zsm none (some oL0)) (l9 ziW zct))))))))) (d9 (H7 0 (dcP zeA sNo (dcR zan 0 sNo (dcP zdR sNo (dcR zan 0 sNo (dcE zjm sNo (dcP zbx sNo (dcP zsL sNo (dcR zan 1 sNo (dcE znu sNo (dcP zdR sNo (dcR zan 2 sNo (dcP zeA sNo (dcR zan 2 sNo (dcE zjm sNo (dcP zbx sNo (dcP zsL sNo (dcR zan 3 sNo (dcE znu sNo (dcP (aj zum) za8 zqD)))))))))))))))))))) (d9 (j3 (D6 zkP (F4 (D5 206 [oL0,zaP,za1]) (l9 zbQ (l9 zbV (rcP zb0 zbH zhq)))))) (d9 (d9 (j3 (rcP zdx za5 o8)) (x9 za0 zdA A9)) (d9 (j3 (D6 zkP (F4 (D5 206 [oL0,za1,zaP]) (l9 zbQ (l9 zbV (rcP zb0 zbM zhq)))))) (d9 (d9 (j3 (rcP zdx zby o8)) (x9 zbl zdA A9)) (d9 (j3 (D6 ziD (D6 zec (l9 (Qb zbB) (l9 (I9 [zaa,zaa] [(0,1,oL0),(1,1,zbj)]) (F4 (D5 207 [oL3,oL2,oL0]) (l9 zbQ (l9 zbV (F4 zrm zjc))))))))) D7)))))))))))),none⟩
theorem SF:I8 Tryz.prog 129 f129:=r9 (slots:=[0,1,3,2,7,22,4,6,8,9,11,10,65,76,13,12,5]) (pure:=true) (rc:=false) (by kernel_rfl)
def vY:SC:=zco
def f130:SFn:=⟨false,[some 0,some 4],8,[.tmp 7],d9 zbC (d9 (d9 zcV (p8 0 (F7 vY))) zc9),none⟩
theorem adZ:I8 Tryz.prog 130 f130:=r9 (slots:=[0,8,7,9,1,5,16,4]) (pure:=false) (rc:=false) (by kernel_rfl)
def f131:SFn:=⟨true,[some 0,some 1],5,[.tmp 4],d9 zgO (d9 (H7 0 (dcP zsi sNo (dcP zd5 sNo (dcP zcu sNo (dcR zsk 0 sNo (dcP za2 sNo (dcE (D5 60 [oL1,oL0]) sNo (dcP zsi sNo (dcP zd5 sNo (dcP zoD sNo (dcR zan 1 sNo (dcP zsi sNo (dcP zd5 sNo (dcP (F8 9 oL0) sNo (dcR zan 1 sNo (dcP zsi sNo (dcP zd5 sNo (dcP zqV sNo (dcR zsd 1 sNo (dcE (D5 59 [zur,zte,zsm,oL0]) sNo (dcP zav sNo (dcP zbQ sNo (dcP zbV sNo (dcP zb0 zam (dcP zb0 zsp K9))))))))))))))))))))))))) (d9 (j3 (l9 zjb (l9 zm1 (l9 (gP oL1 false zbZ) (l9 zj5 (l9 (gP oL0 true zsD) (l9 (gP oL1 true (pIb iNe sNe oL0 zb8)) (l9 zpJ (l9 zka zsj))))))))) D7)),none⟩
theorem aY:I8 Tryz.prog 131 f131:=r9 (slots:=[0,1,6,5,4]) (pure:=true) (rc:=false) (by kernel_rfl)
def SG:SC:=d9 zaS (d9 zaZ (d9 (p8 1 (d9 zdW (j3 (l9 zss (F4 (D5 208 [zau]) (l9 (pIb bG bI (M0 (l8.str [32])) oL0) (l9 zgU zbq))))))) zaR))
def f132:SFn:=⟨false,[some 5,some 0],8,[.tmp 7],d9 (j3 (rcP zgH zaB o8)) (d9 (d9 zbo (p8 0 (F7 SG))) ztN),none⟩
theorem ae0:I8 Tryz.prog 132 f132:=r9 (slots:=[1,9,8,10,7,0,6,4]) (pure:=false) (rc:=false) (by kernel_rfl)
def f133:SFn:=⟨false,[],1,[.tmp 0],d9 zpf (d9 (j3 (Q9 iD (l9 (I9 [l8.nilFunc,l8.nilFunc] [(0,1,M0 (.func (.func 209) [] [])),(1,1,M0 (.func (.func 210) [] []))]) (F4 znS (l9 (I9 [l8.nilFunc,l8.nilFunc] [(0,1,M0 (.func (.func 213) [] [])),(1,1,M0 (.func (.func 214) [] []))]) (F4 znT (l9 (I9 [l8.nilFunc,l8.nilFunc] [(0,1,M0 (.func (.func 216) [] [])),(1,1,M0 (.func (.func 217) [] []))]) (F4 znr (l9 (I9 [l8.nilFunc,l8.nilFunc] [(0,1,M0 (.func (.func 218) [] [])),(1,1,M0 (.func (.func 219) [] []))]) (F4 zns (l9 (I9 [l8.nilFunc,l8.nilFunc] [(0,1,M0 (.func (.func 220) [] [])),(1,1,M0 (.func (.func 221) [] []))]) (F4 znt (l9 (I9 [l8.nilFunc,l8.nilFunc] [(0,1,M0 (.func (.func 223) [] [])),(1,1,M0 (.func (.func 224) [] []))]) (F4 znh (l9 (I9 [l8.nilFunc,l8.nilFunc] [(0,1,M0 (.func (.func 225) [] [])),(1,1,M0 (.func (.func 226) [] []))]) zkk))))))))))))))) D7),none⟩
theorem ae1:I8 Tryz.prog 133 f133:=r9 (slots:=[0]) (pure:=false) (rc:=false) (by kernel_rfl)
def SH:SC:=d9 zaS (d9 zaZ (d9 (p8 1 (d9 zb7 (j3 (l9 zaG (l9 (pIb tZ M8 (M0 (l8.int .i64 (Int.ofNat 31))) oL0) (l9 (zV zay zar) (l9 (iC .i64 oL0) (l9 zgU (l9 zax (l9 (pIb wG M8 oL0 zjg) zsj)))))))))) zaR))
def f134:SFn:=⟨false,[some 0],7,[.tmp 6],d9 zdO (d9 zcv (d9 (d9 (j3 (rcP (zW zay) zsp za6)) (p8 0 (F7 SH))) (d9 zn1 D7))),none⟩
theorem ae2:I8 Tryz.prog 134 f134:=r9 (slots:=[0,7,6,8,3,4,2]) (pure:=false) (rc:=false) (by kernel_rfl)
def f135:SFn:=⟨false,[some 0],3,[.tmp 2],d9 zb4 (d9 (j3 (l9 zht (D6 zsd (F4 (D5 136 [oL0,zac,M0 (l8.int .i64 (Int.ofNat 1000000))]) zaN)))) D7),none⟩
theorem ae3:I8 Tryz.prog 135 f135:=r9 (slots:=[0,1,2]) (pure:=false) (rc:=false) (by kernel_rfl)
def f136:SFn:=⟨false,[some 0,some 1,some 3],5,[.tmp 4],zaQ,none⟩
theorem ae4:I8 Tryz.prog 136 f136:=r9 (slots:=[0,1,3,2,6]) (pure:=false) (rc:=false) (by kernel_rfl)
def f137:SFn:=⟨false,[some 1,some 0],3,[],d9 zfl (j3 (l9 zfn (D6 zsd (l9 zit (l9 zrp ziA))))),none⟩
theorem ae5:I8 Tryz.prog 137 f137:=r9 (slots:=[1,0,3]) (pure:=false) (rc:=false) (by kernel_rfl)
def f138:SFn:=⟨false,[some 0],3,[.tmp 2],d9 zb4 (d9 (j3 (l9 ze0 (D6 zsk (Q9 zcS (l9 zlD (F4 ztI (l9 zbZ zaN))))))) D7),none⟩
theorem ae6:I8 Tryz.prog 138 f138:=r9 (slots:=[0,1,2]) (pure:=false) (rc:=false) (by kernel_rfl)
def f139:SFn:=⟨false,[some 1,some 0],3,[],d9 zfl (j3 (l9 ziK (D6 zsk (l9 zit (l9 (F8 6 oL0) zrQ))))),none⟩
theorem ae7:I8 Tryz.prog 139 f139:=r9 (slots:=[1,0,3]) (pure:=false) (rc:=false) (by kernel_rfl)
def f140:SFn:=⟨false,[some 0],3,[.tmp 2],d9 zb4 (d9 (j3 (l9 zk2 (l9 zcu (D6 zan (F4 (D5 141 [oL0]) (l9 zqd (l9 zgt (D6 zdD (F4 (gE oL3 true zlp) ziX))))))))) D7),none⟩
theorem ae8:I8 Tryz.prog 140 f140:=r9 (slots:=[0,1,2]) (pure:=false) (rc:=false) (by kernel_rfl)
def f141:SFn:=⟨false,[some 0],2,[.tmp 1],d9 zeH (d9 (j3 (F4 (D5 66 [zay,zae,zsN]) zsh)) D7),none⟩
theorem ae9:I8 Tryz.prog 141 f141:=r9 (slots:=[0,2]) (pure:=false) (rc:=false) (by kernel_rfl)
def f142:SFn:=⟨false,[some 1,some 0],3,[],d9 zfl (j3 (l9 zo2 (D6 zsd (l9 zit (l9 zm4 ziA))))),none⟩
theorem aea:I8 Tryz.prog 142 f142:=r9 (slots:=[1,0,3]) (pure:=false) (rc:=false) (by kernel_rfl)
def f143:SFn:=⟨false,[some 0],3,[.tmp 2],d9 zb4 (d9 (j3 (l9 zir (l9 zcu (D6 zan (F4 (D5 141 [oL0]) (l9 zjI (l9 zgt (D6 (gRd oL2 true zsd) (F4 (gE oL3 true (D5 136 [oL0,zac,zsW])) (l9 zsn (l9 zjI (l9 zoM (D6 zdD (F4 (gE oL3 true (D5 66 [oL0,zac,M0 (l8.int .i64 (Int.ofNat 1048576))])) ziX)))))))))))))) D7),none⟩
theorem aeb:I8 Tryz.prog 143 f143:=r9 (slots:=[0,1,2]) (pure:=false) (rc:=false) (by kernel_rfl)
def f144:SFn:=⟨false,[some 1,some 0],3,[],d9 zfl (j3 (l9 zo3 (D6 zhD (l9 zit (l9 (F8 16 oL0) zrR))))),none⟩
theorem aec:I8 Tryz.prog 144 f144:=r9 (slots:=[1,0,3]) (pure:=false) (rc:=false) (by kernel_rfl)
def f145:SFn:=⟨false,[some 0],3,[.tmp 2],d9 zb4 (d9 (j3 (l9 zgG (D6 zsk (F4 (D5 146 [oL0]) zaN)))) D7),none⟩
theorem aed:I8 Tryz.prog 145 f145:=r9 (slots:=[0,1,2]) (pure:=false) (rc:=false) (by kernel_rfl)
def f146:SFn:=⟨false,[some 0],3,[.tmp 2],d9 zb4 (d9 (j3 (l9 zbz (D6 zan (l9 zbZ (l9 zh4 (D6 zsf (F4 (gE oL2 true zlp) (l9 zcl (l9 (gP oL0 true zht) (D6 zsf (F4 (gE oL2 true (D5 66 [oL0,M0 (l8.int .i64 (Int.negSucc 1125899906842623)),ztK])) (l9 zcl (l9 zmK (D6 zsf (F4 (gE oL2 true (D5 66 [oL0,zac,zg5])) (l9 zcl (l9 (gP oL0 true ze0) (D6 zeP (F4 (gE oL2 true (D5 136 [oL0,M0 (l8.int .i64 (Int.negSucc 9999)),M0 (l8.int .i64 (Int.ofNat 10000))])) (l9 zcl (l9 zjW (D6 zsf (F4 zrS (l9 zcl (l9 zmG (D6 zsf (F4 zrS (l9 zcl zaN)))))))))))))))))))))))))))) D7),none⟩
theorem aee:I8 Tryz.prog 146 f146:=r9 (slots:=[0,1,2]) (pure:=false) (rc:=false) (by kernel_rfl)
def f147:SFn:=⟨false,[some 1,some 0],3,[],d9 zfl (j3 (l9 zo5 (D6 zsk (l9 zit (l9 (F8 20 oL0) zrQ))))),none⟩
theorem aef:I8 Tryz.prog 147 f147:=r9 (slots:=[1,0,3]) (pure:=false) (rc:=false) (by kernel_rfl)
def f148:SFn:=⟨false,[some 0],3,[.tmp 2],d9 zb4 (d9 (j3 (l9 zhc (D6 zsd (F4 (D5 149 [oL0]) zaN)))) D7),none⟩
theorem aeg:I8 Tryz.prog 148 f148:=r9 (slots:=[0,1,2]) (pure:=false) (rc:=false) (by kernel_rfl)
def lJ:SC:=d9 zcz (d9 zdl (d9 (p8 1 (d9 (j3 (l9 zpq (D6 zan (rcP za4 zaB zgC)))) (d9 (j3 (F4 (D5 141 [zau]) (l9 zsr (l9 zpl (l9 zgq (l9 zj5 (l9 zmj (l9 (gP oL1 true zcs) (D6 zdD (l9 (gP oL3 true zdo) (l9 zh3 (l9 (gP zuk true zfY) (D6 zn3 (l9 (gP zsJ true zph) (l9 (gP zut false zkh) (rcP (Y5 zur zth oL0) zaE o8)))))))))))))))) (x9 zaD ziS A9)))) zbJ))
def f149:SFn:=⟨false,[some 0],10,[.tmp 9],d9 (j3 (rcL zse zul zfe)) (d9 (d9 zg9 (p8 0 (F7 lJ))) (d9 (j3 (l9 zbz (D6 zan (F4 (D5 66 [oL0,zac,M0 (l8.int .i64 (Int.ofNat 19999))]) (l9 zh4 (D6 zsf (l9 (gP oL2 true zsl) (F4 (gE oL3 true (D5 66 [oL0,zaF,zbk])) (l9 zsn zcb))))))))) D7)),none⟩
theorem aeh:I8 Tryz.prog 149 f149:=r9 (slots:=[0,1,8,7,9,6,4,3,29,2]) (pure:=false) (rc:=false) (by kernel_rfl)
def f150:SFn:=⟨false,[some 1,some 0],3,[],d9 zfl (j3 (l9 zk1 (D6 zsd (l9 zit (l9 (F8 28 oL0) ziA))))),none⟩
theorem aei:I8 Tryz.prog 150 f150:=r9 (slots:=[1,0,3]) (pure:=false) (rc:=false) (by kernel_rfl)
def f151:SFn:=⟨false,[some 0],3,[.tmp 2],d9 zb4 (d9 (H7 0 (dcP zf6 sNo (dcP zcu sNo (dcR zan 0 sNo (dcE zlO sNo (dcP zav sNo (dcP zmp sNo (dcP zgt sNo (dcR zdD 0 sNo (dcE (gE oL3 true zlG) sNo (dcP zsn sNo (dcP zav sNo (dcR zp4 0 sNo (dcE zr6 sNo (dcP (gP oL2 true zf6) sNo (dcR zgh 1 sNo (dcP (gP zsm true (pNe (O6 [.i,.i]) oL0 oL2)) sNo (dcP zsc sNo zl7)))))))))))))))))) D7),none⟩
theorem aej:I8 Tryz.prog 151 f151:=r9 (slots:=[0,1,2]) (pure:=false) (rc:=false) (by kernel_rfl)
def f152:SFn:=⟨false,[some 1,some 0],3,[],d9 zfl (j3 (l9 zo4 (D6 zsd (l9 zit (l9 (F8 30 oL0) ziA))))),none⟩
theorem aek:I8 Tryz.prog 152 f152:=r9 (slots:=[1,0,3]) (pure:=false) (rc:=false) (by kernel_rfl)
def f153:SFn:=⟨false,[some 0],3,[.tmp 2],d9 zsz (d9 zbA (d9 (j3 (Q9 (H9 1 0 [zaa] []) (F4 (eF 1 8 oL0 zay) zaN))) D7)),none⟩
theorem ael:I8 Tryz.prog 153 f153:=r9 (slots:=[0,4,2]) (pure:=false) (rc:=false) (by kernel_rfl)
def SI:SC:=p8 1 (d9 zfa (d9 (d9 zez (x9 zao (d9 (j3 (F4 (D5 228 [zak,zai,zay,zar]) o8)) D7) A9)) (d9 (d9 zf1 (x9 zaC (d9 (j3 (F4 (D5 229 [zak,zai,zay,zar]) o8)) D7) A9)) (d9 (d9 ziL (x9 zaL (d9 (j3 (F4 (D5 230 [zak,zai,zay,zar]) o8)) zeI) A9)) (d9 (j3 (F4 (D5 231 [zak,zai,zay,zar]) zfL)) (d9 (d9 zfN (x9 za1 (d9 (j3 (F4 (D5 232 [zak,zai,zay,zar]) o8)) zch) A9)) (d9 (d9 zci (x9 zbB (d9 (j3 (rcE (D5 233 [zak,zai,zay,zar]) zbH o8)) zkQ) A9)) (d9 (d9 (H7 0 (dcP za2 sNo (dcP zsI sNo (dcP zav sNo (dcP zsE sNo (dcP zug sNo (dcP zue sNo (dcP zuh sNo (dcP (gP zsm true ztn) sNo (dcR zrr 0 sNo (dcP zsX sNo (dcP (gP zsJ true zsR) sNo (dcP (gP zte true zsQ) sNo (dcR zt5 0 sNo zsB)))))))))))))) (x9 zbr (d9 (j3 (F4 (D5 234 [zak,zai,zay,za0,zar]) zcG)) zhk) A9)) (d9 (j3 (F4 (D5 235 [zak,zai,zay,za0,zar]) zfo)) (d9 zie (d9 zdf (d9 zfh (d9 zdc (x9 zc7 (d9 zfb (d9 (j3 (F4 (D5 154 [zak,zai,zbt,zau,zar]) o8)) zfj)) (d9 zfc (d9 (j3 (l9 zc2 (F4 (D5 154 [zak,oL0,zay,zau,zar]) o8))) zjF))))))))))))))))
def f154:SFn:=⟨false,[some 4,some 1,some 0,some 6,some 5],24,[],d9 zhE (d9 zfk (p8 0 (F7 SI))),none⟩
theorem aem:I8 Tryz.prog 154 f154:=r9 (slots:=[2,1,12,25,0,4,3,32,10,39,14,56,13,11,75,80,97,15,17,16,18,19,125,20]) (pure:=false) (rc:=false) (by kernel_rfl)
def f155:SFn:=⟨false,[some 0],2,[.tmp 1],d9 zdY (d9 (x9 zun (d9 (j3 (l9 (iC .u32 zay) (F4 (D5 236 [oL0]) zsh))) D7) A9) (d9 (j3 (F4 (D5 237 [zay]) zsh)) D7)),none⟩
theorem aen:I8 Tryz.prog 155 f155:=r9 (slots:=[0,2]) (pure:=false) (rc:=false) (by kernel_rfl)
def f156:SFn:=⟨false,[some 0],2,[.tmp 1],d9 zeH (d9 (j3 (l9 (pIb iNe sNe zay zay) zsh)) D7),none⟩
theorem aeo:I8 Tryz.prog 156 f156:=r9 (slots:=[0,2]) (pure:=false) (rc:=false) (by kernel_rfl)
def SK:SC:=p8 1 (d9 zfa (d9 (d9 zez (x9 zao (d9 (j3 (F4 (D5 238 [zak,zai,zay,zar]) o8)) D7) A9)) (d9 (d9 zf1 (x9 zaC (d9 (j3 (F4 (D5 239 [zak,zai,zay,zar]) o8)) D7) A9)) (d9 (d9 ziL (x9 zaL (d9 (j3 (F4 (D5 240 [zak,zai,zay,zar]) o8)) zeI) A9)) (d9 (j3 (F4 (D5 241 [zak,zai,zay,zar]) zfL)) (d9 (d9 zfN (x9 za1 (d9 (j3 (F4 (D5 242 [zak,zai,zay,zar]) o8)) zch) A9)) (d9 (d9 zci (x9 zbB (d9 (j3 (rcE (D5 243 [zak,zai,zay,zar]) zbH o8)) zkQ) A9)) (d9 (d9 zbD (x9 zbr (d9 (j3 (F4 (D5 244 [zak,zai,zay,za0,zar]) zcG)) zhk) A9)) (d9 (j3 (F4 (D5 245 [zak,zai,zay,za0,zar]) zfo)) (d9 zie (d9 zdf (d9 zfh (d9 zdc (x9 zc7 (d9 zfb (d9 (j3 (F4 (D5 157 [zak,zai,zbt,zau,zar]) o8)) zfj)) (d9 zfc (d9 (j3 (l9 zc2 (F4 (D5 157 [zak,oL0,zay,zau,zar]) o8))) zjF))))))))))))))))
def f157:SFn:=⟨false,[some 4,some 1,some 0,some 6,some 5],24,[],d9 zhE (d9 zfk (p8 0 (F7 SK))),none⟩
theorem aep:I8 Tryz.prog 157 f157:=r9 (slots:=[2,1,12,25,0,4,3,32,10,39,14,56,13,11,75,80,97,15,17,16,18,19,125,20]) (pure:=false) (rc:=false) (by kernel_rfl)
def SL:SC:=d9 zdr (p8 5 (d9 (j3 (l9 zeh (F4 (D5 247 [zak,zar,oL0,zai,zau]) o8))) zca))
def SN:SC:=d9 zdw (p8 3 (d9 zcO (d9 (p8 4 (F7 SL)) (d9 (d9 zep (d9 zeY (x9 zaP (j3 (F4 (D5 247 [zak,zar,zaL,zal,zau]) o8)) A9))) zdP))))
def SQ:SC:=d9 zdH (p8 1 (d9 (j3 (F4 (D5 246 [zak,zar,zai,zau]) o8)) zcU))
def f158:SFn:=⟨false,[some 4,some 2,some 6],11,[],d9 zgA (d9 zd9 (d9 (p8 0 (F7 SQ)) (d9 (j3 (F4 (D5 246 [zak,zar,zal,zau]) o8)) (p8 2 (F7 SN))))),none⟩
theorem aer:I8 Tryz.prog 158 f158:=r9 (slots:=[6,8,1,13,0,7,2,30,35,9,54]) (pure:=false) (rc:=false) (by kernel_rfl)
def SS:SC:=d9 zdr (p8 5 (d9 (j3 (l9 zeh (F4 (D5 249 [zak,zar,oL0,zai,zau]) o8))) zca))
def SV:SC:=d9 zdw (p8 3 (d9 zcO (d9 (p8 4 (F7 SS)) (d9 (d9 zep (d9 zeY (x9 zaP (j3 (F4 (D5 249 [zak,zar,zaL,zal,zau]) o8)) A9))) zdP))))
def SX:SC:=d9 zdH (p8 1 (d9 (j3 (F4 (D5 248 [zak,zar,zai,zau]) o8)) zcU))
def f159:SFn:=⟨false,[some 4,some 2,some 6],11,[],d9 zgA (d9 zd9 (d9 (p8 0 (F7 SX)) (d9 (j3 (F4 (D5 248 [zak,zar,zal,zau]) o8)) (p8 2 (F7 SV))))),none⟩
theorem aes:I8 Tryz.prog 159 f159:=r9 (slots:=[6,8,1,13,0,7,2,30,35,9,54]) (pure:=false) (rc:=false) (by kernel_rfl)
def SY:SC:=p8 1 (d9 zfa (d9 (d9 zez (x9 zao (d9 (j3 (F4 (D5 250 [zak,zai,zay,zar]) o8)) D7) A9)) (d9 (d9 zf1 (x9 zaC (d9 (j3 (F4 (D5 251 [zak,zai,zay,zar]) o8)) D7) A9)) (d9 (d9 ziL (x9 zaL (d9 (j3 (F4 (D5 252 [zak,zai,zay,zar]) o8)) zeI) A9)) (d9 (j3 (F4 (D5 253 [zak,zai,zay,zar]) zfL)) (d9 (d9 zfN (x9 za1 (d9 (j3 (F4 (D5 254 [zak,zai,zay,zar]) o8)) zch) A9)) (d9 (d9 zci (x9 zbB (d9 (j3 (rcE (D5 255 [zak,zai,zay,zar]) zbH o8)) zkQ) A9)) (d9 (d9 zbD (x9 zbr (d9 (j3 (F4 (D5 256 [zak,zai,zay,za0,zar]) zcG)) zhk) A9)) (d9 (j3 (F4 (D5 257 [zak,zai,zay,za0,zar]) zfo)) (d9 zie (d9 zdf (d9 zfh (d9 zdc (x9 zc7 (d9 zfb (d9 (j3 (F4 (D5 160 [zak,zai,zbt,zau,zar]) o8)) zfj)) (d9 zfc (d9 (j3 (l9 zc2 (F4 (D5 160 [zak,oL0,zay,zau,zar]) o8))) zjF))))))))))))))))
def f160:SFn:=⟨false,[some 4,some 1,some 0,some 6,some 5],24,[],d9 zhE (d9 zfk (p8 0 (F7 SY))),none⟩
theorem aeu:I8 Tryz.prog 160 f160:=r9 (slots:=[2,1,12,25,0,4,3,32,10,39,14,56,13,11,75,80,97,15,17,16,18,19,125,20]) (pure:=false) (rc:=false) (by kernel_rfl)
def f161:SFn:=⟨false,[some 0,some 1,some 3],5,[.tmp 4],zaQ,none⟩
theorem aev:I8 Tryz.prog 161 f161:=r9 (slots:=[0,1,3,2,6]) (pure:=false) (rc:=false) (by kernel_rfl)
def CX:SC:=d9 zcz (d9 zdl (d9 (p8 1 (d9 (j3 (l9 zlq (D6 zsk (rcL zaW zaO (rcP za4 zaE zjX))))) (d9 (d9 (j3 (D6 zjZ (F4 (D5 258 [oL0]) zs7))) (x9 zaC zk5 A9)) (d9 (H7 0 (dcP zbx sNo (dcP zsI sNo (dcP zav sNo (dcP (gP oL0 true zrT) sNo (dcR zsf 0 sNo (dcP zqE sNo (dcR zsq 0 sNo (dcP (gP zsm true zbx) sNo (dcP (gP zuk true zaw) sNo (dcP (gP zsC true ztn) sNo (dcP zrv sNo (dcR zij 0 sNo (dcP (gP zum true zpd) sNo (dcP zjV zaJ K9))))))))))))))) (x9 zaL (d9 (j3 (rcP zhp zaT o8)) D7) A9))))) zbJ))
def f162:SFn:=⟨false,[some 0],11,[.tmp 10],d9 (j3 (rcL zse zul zcA)) (d9 (d9 zd1 (p8 0 (F7 CX))) zk6),none⟩
theorem aew:I8 Tryz.prog 162 f162:=r9 (slots:=[0,1,8,7,9,6,4,15,3,29,2]) (pure:=false) (rc:=false) (by kernel_rfl)
def Ic:SC:=d9 zcz (d9 zdl (d9 (p8 1 (d9 (j3 (l9 zlq zee)) (j3 (l9 zfH (D6 zan (D6 (J9 8 zaC) (F4 (ak T9 1 zau oL1 oL0) o8))))))) zbJ))
def f163:SFn:=⟨false,[some 0],9,[.tmp 8],d9 (j3 (rcL zse zul (rcP znq zaE o8))) (d9 (j3 (Q9 iD zbm)) (d9 (d9 zd1 (p8 0 (F7 Ic))) zhF)),none⟩
theorem aex:I8 Tryz.prog 163 f163:=r9 (slots:=[0,1,10,9,11,8,3,5,2]) (pure:=false) (rc:=false) (by kernel_rfl)
def f164:SFn:=⟨false,[some 0,some 1],6,[.tmp 5],d9 (j3 (rcL zse zam (rcL zb2 zsp (rcP ztM zaz o8)))) (d9 (j3 (l9 (bH (.func 259) [] [zal]) (rcL (aR [l8.nilFunc]) zaq zct))) (d9 (j3 (l9 (bH (.func 262) [] [zao,zak,zal]) zbq)) D7)),none⟩
theorem aey:I8 Tryz.prog 164 f164:=r9 (slots:=[0,1,3,2,5,4]) (pure:=false) (rc:=false) (by kernel_rfl)
def Ie:SC:=d9 zgj (d9 zkN (d9 (p8 3 (d9 ziF (j3 (l9 zcg (l9 zrT (D6 zan (l9 (I9 [zaa,zaa] [(0,1,oL0),(1,1,za0)]) zg8))))))) ze5))
def Ig:SC:=d9 zcz (d9 zdl (d9 (p8 1 (d9 (j3 (l9 zlq (D6 zsk (rcL zaW zaO zcK)))) (d9 (j3 (D6 zcd (D6 zjZ (rcE (D5 265 [oL1,oL0]) zaT zf2)))) (p8 2 (F7 Ie))))) zbJ))
def f165:SFn:=⟨true,[some 0],14,[.tmp 13],d9 (j3 (rcL zse zul (rcP zbw zby o8))) (d9 zoI (d9 (d9 zd1 (p8 0 (F7 Ig))) (d9 (j3 (rcP zcg zby o8)) D7))),none⟩
theorem M7:I8 Tryz.prog 165 f165:=r9 (slots:=[0,1,11,10,12,9,5,19,18,20,17,3,7,2]) (pure:=true) (rc:=false) (by kernel_rfl)
def f166:SFn:=⟨false,[some 1,some 0],4,[.tmp 3],d9 zt8 (d9 (j3 (D6 zpa (D6 (ay T9 1 zaa true oL0 zai) (l9 zbQ (l9 zbV zaN))))) (d9 zmX D7)),none⟩
theorem aez:I8 Tryz.prog 166 f166:=r9 (slots:=[1,0,5,3]) (pure:=false) (rc:=false) (by kernel_rfl)
def f167:SFn:=⟨false,[some 2,some 0,some 1],4,[.tmp 3],d9 zt8 (d9 (j3 (l9 zqP (D6 zan (D6 ztA (D6 (ay T9 1 zaa false oL0 zal) (l9 zot zbi)))))) D7),none⟩
theorem aeA:I8 Tryz.prog 167 f167:=r9 (slots:=[1,2,0,4]) (pure:=false) (rc:=false) (by kernel_rfl)
def f168:SFn:=⟨false,[some 1,some 0,some 2],6,[.tmp 5],d9 (j3 zmm) (d9 (j3 (D6 zou (l9 zsu (D6 zan (F4 (D5 169 [oL2,zai,oL0]) zic))))) (d9 (j3 (D6 zou (l9 zsu (D6 zan (l9 zax (F4 (D5 169 [oL3,zai,oL0]) zmP)))))) (d9 (j3 (l9 (gP zao false zaG) (l9 (Y5 zao zth oL0) zbq))) D7))),none⟩
theorem aeB:I8 Tryz.prog 168 f168:=r9 (slots:=[1,0,2,5,7,4]) (pure:=false) (rc:=false) (by kernel_rfl)
def f169:SFn:=⟨false,[some 0,some 2,some 3],9,[.tmp 7,.tmp 8],d9 (j3 (rcL zse zul (rcP zso zaB zbW))) (d9 (d9 (j3 (D6 zcd (Q9 (H9 1 1 [zaa] [(0,1,zao)]) (F4 (D5 266 [oL1,zal,oL0]) zsj)))) (d9 zdz (x9 zar (d9 (j3 (rcP zso zaB zoh)) D7) A9))) (d9 (j3 (D6 zcd (F4 (D5 267 [oL0,zal,zao]) (l9 zbQ (l9 zbV (Q9 za7 (F4 zpF zrj))))))) (d9 (j3 (rcP zaU zaB zbW)) D7))),none⟩
theorem aeC:I8 Tryz.prog 169 f169:=r9 (slots:=[0,3,1,2,8,17,10,6,7]) (pure:=false) (rc:=false) (by kernel_rfl)
def f170:SFn:=⟨false,[some 0],4,[.tmp 3],d9 zfF (d9 (d9 (j3 (l9 zcs (D6 zan (l9 zoE (l9 zmk (D6 zbP (l9 zmv (l9 zdX (l9 zjH (D6 zbP (l9 (gP oL2 false (pIb iLt sLt oL0 (M0 (l8.int .i64 (Int.negSucc 2147483646))))) (l9 zdX (l9 zjH (D6 zbP (l9 zmv zlS))))))))))))))) (x9 zal (d9 zt8 D7) A9)) (d9 (H7 0 (dcP zbz sNo (dcR zan 0 sNo (dcE (D5 269 [oL0]) sNo (dcP zcs sNo (dcR zan 1 sNo (dcE (D5 268 [oL2,oL0]) sNo (dcP (pIb iEq sEq oL0 zae) sNo zrn)))))))) D7)),none⟩
theorem aeD:I8 Tryz.prog 170 f170:=r9 (slots:=[0,1,20,2]) (pure:=false) (rc:=false) (by kernel_rfl)
def Ta:SC:=d9 (d9 (j3 (l9 zoa (D6 zan (l9 zsl (rcP (pIb iLt sLt zaP oL0) za8 o8))))) zkL) (d9 (p8 3 (d9 (H7 0 (dcP zoa sNo (dcR zan 0 sNo (dcP zcf sNo (dcP zsv sNo (dcP zcu sNo (dcR zan 0 sNo (dcP zsu sNo (dcR zan 0 sNo (dcP zdm sNo (dcP zav sNo (dcP (gP oL0 true zoa) sNo (dcR zsf 0 sNo (dcP (gP oL2 true zcf) sNo (dcP ztb sNo (dcP zli sNo (dcR zgo 0 sNo (dcP (gP zsC true zsD) sNo (dcP (gP zsJ true zmY) sNo (dcP zkh za5 K9)))))))))))))))))))) (x9 za0 ziY A9))) (j3 (l9 zcf (l9 zax zck))))
def Tc:SC:=d9 (d9 (j3 (l9 zrU (D6 zan (l9 zsl ztX)))) zex) (d9 (p8 1 (d9 (j3 (l9 zrU (D6 zan (l9 zrh zcN)))) (d9 (H7 0 (dcP ziT sNo (dcR zan 0 sNo (dcP zsD sNo (dcP zmY sNo (dcP zav sNo (dcP (gP oL0 true zgu) sNo (dcR zsf 0 sNo (dcP (gP oL2 true zkG) sNo (dcR zsq 0 sNo (dcE (gE zsm true zor) sNo (dcP (gP zuk true zsu) sNo (dcR zn3 1 sNo (dcP (gP zsJ true zdm) sNo (dcP (gP zte true zav) sNo (dcP (gP oL0 false zkG) sNo (dcR zbP 0 sNo (dcP (gP oL2 false zgu) sNo (dcR zjk 0 sNo (dcE (gE zsm false zor) sNo (dcP (gP zuk false zsu) sNo (dcR (gRd zsC false zan) 1 sNo (dcP (gP zsJ false zdm) sNo (dcP (gP (kE 17) true (Y5 zte zth oL0)) sNo (dcP (Y5 (kE 18) oL0 zun) zaJ K9))))))))))))))))))))))))) (x9 zaL ziY A9)))) zcB)
def f172:SFn:=⟨false,[some 0,some 1,some 3],14,[.tmp 13],d9 (j3 (rcL zse zaO (rcL zb2 zsp zpG))) (d9 (d9 (j3 (l9 zsL (D6 zan (rcP (pIb iEq sEq oL0 zao) zaq o8)))) (x9 zak ziY A9)) (d9 (d9 zh5 (p8 0 (F7 Tc))) (d9 (d9 zfD (p8 2 (F7 Ta))) (d9 (j3 zpG) D7)))),none⟩
theorem aeE:I8 Tryz.prog 172 f172:=r9 (slots:=[0,1,4,2,13,7,3,18,8,49,9,54,75,6]) (pure:=false) (rc:=false) (by kernel_rfl)
def Td:SC:=d9 zdr (p8 5 (d9 (j3 (l9 zeh (F4 (D5 277 [zak,zar,oL0,zai,zau]) o8))) zca))
def Te:SC:=d9 zdw (p8 3 (d9 zcO (d9 (p8 4 (F7 Td)) (d9 (d9 zep (d9 zeY (x9 zaP (j3 (F4 (D5 277 [zak,zar,zaL,zal,zau]) o8)) A9))) zdP))))
def Tf:SC:=d9 zdH (p8 1 (d9 (j3 (F4 (D5 276 [zak,zar,zai,zau]) o8)) zcU))
def f177:SFn:=⟨false,[some 4,some 2,some 6],11,[],d9 zgA (d9 zd9 (d9 (p8 0 (F7 Tf)) (d9 (j3 (F4 (D5 276 [zak,zar,zal,zau]) o8)) (p8 2 (F7 Te))))),none⟩
theorem aeF:I8 Tryz.prog 177 f177:=r9 (slots:=[6,8,1,13,0,7,2,30,35,9,54]) (pure:=false) (rc:=false) (by kernel_rfl)
def f178:SFn:=⟨false,[some 0,some 1],3,[.tmp 2],d9 zd4 (d9 (j3 (F4 (D5 278 [zay,zai]) ze1)) D7),none⟩
theorem aeG:I8 Tryz.prog 178 f178:=r9 (slots:=[0,1,4]) (pure:=false) (rc:=false) (by kernel_rfl)
def f179:SFn:=⟨false,[some 0,some 2],4,[.tmp 3],d9 zfF (d9 (j3 (l9 zbz (D6 zan (D6 zpS (l9 zmY zbi))))) D7),none⟩
theorem aeH:I8 Tryz.prog 179 f179:=r9 (slots:=[0,2,1,3]) (pure:=false) (rc:=false) (by kernel_rfl)
def Tg:SC:=zbN
def f180:SFn:=⟨false,[some 0,some 1],9,[.tmp 8],d9 zgp (d9 (j3 (F4 (D5 279 [zay,zai]) zaN)) (d9 zdn (d9 (d9 zfG (p8 0 (F7 Tg))) (d9 (j3 (Q9 zi2 (F4 (nX [Z] oL0) o8))) zjG)))),none⟩
theorem aeI:I8 Tryz.prog 180 f180:=r9 (slots:=[0,1,5,12,6,19,7,29,4]) (pure:=false) (rc:=false) (by kernel_rfl)
def f181:SFn:=⟨false,[some 0],4,[.tmp 3],d9 (j3 (rcL zse zul zqF)) (d9 (j3 (l9 zgS (D6 zan (F4 (D5 281 [oL0]) (F4 (D5 280 [oL0]) zaN))))) (d9 (j3 (l9 (bH (.func 283) [] [zai]) (F4 (D5 282 [zal,oL0]) o8))) ziQ)),none⟩
theorem aeJ:I8 Tryz.prog 181 f181:=r9 (slots:=[0,1,3,2]) (pure:=false) (rc:=false) (by kernel_rfl)
def f182:SFn:=⟨false,[some 1,some 0],3,[.tmp 2],d9 zd4 (d9 (j3 (D6 zov (F4 zrV (l9 zsr zaN)))) D7),none⟩
theorem aeK:I8 Tryz.prog 182 f182:=r9 (slots:=[1,0,3]) (pure:=false) (rc:=false) (by kernel_rfl)
def f183:SFn:=⟨false,[some 0,some 2],6,[.tmp 5],d9 (j3 (rcL zse zul zmm)) (d9 (j3 (D6 zda (F4 zrP (F4 zsa (l9 zbQ (l9 zbV (l9 (pExt oL2 2) (rcL zfR zam zrN)))))))) (d9 (j3 (D6 zdT (F4 (D5 285 [oL0]) zmP))) (d9 zjC D7))),none⟩
theorem aeL:I8 Tryz.prog 183 f183:=r9 (slots:=[0,2,1,5,8,4]) (pure:=false) (rc:=false) (by kernel_rfl)
def Ih:SC:=d9 zaS (d9 zaZ (d9 (p8 1 (d9 zb7 (d9 (j3 (l9 (H8 1 zay zar) (D6 zan (rcP (pIb iEq sEq zak oL0) zaO o8)))) zce))) zaR))
def f184:SFn:=⟨false,[some 0,some 4],8,[.tmp 7],d9 zbC (d9 (d9 zcV (p8 0 (F7 Ih))) zc9),none⟩
theorem aeM:I8 Tryz.prog 184 f184:=r9 (slots:=[0,8,7,9,1,5,16,4]) (pure:=false) (rc:=false) (by kernel_rfl)
def f185:SFn:=⟨true,[some 0,some 1],10,[.tmp 8,.tmp 9],d9 (j3 (rcL zse zsp (rcL zb2 zaz zix))) (d9 (d9 (j3 (D6 ze2 (F4 ztI zbi))) (d9 zdy (x9 zak (d9 (j3 (rcP zaf zaE (rcP zsD zaJ o8))) D7) A9))) (d9 (H7 0 (dcR ze2 0 sNo (dcE zr8 sNo (dcR zob 1 sNo (dcE (D5 286 [oL1,oL0]) sNo (dcP zav zaO K9)))))) (d9 (d9 zj8 zgg) (d9 (j3 (l9 zis (rcP zav zaE zbe))) D7)))),none⟩
theorem aF:I8 Tryz.prog 185 f185:=r9 (slots:=[0,1,2,6,11,3,7,18,4,5]) (pure:=true) (rc:=false) (by kernel_rfl)
def f186:SFn:=⟨true,[some 0,some 1],6,[.cell 4 (some 7),.tmp 5],d9 (j3 (rcL zse zsp (rcL zb2 zam zhl))) (d9 (j3 (D6 ze2 (l9 (bH (.func 288) [] [zao]) zh8))) D7),none⟩
theorem Ti:I8 Tryz.prog 186 f186:=r9 (slots:=[0,1,2,3,4,5]) (pure:=true) (rc:=false) (by kernel_rfl)
def f187:SFn:=⟨true,[some 0],8,[.cell 4 (some 2),.tmp 6,.tmp 7],d9 (j3 (rcL zse zul (rcL zfR zaq (rcP zbw zaO zbh)))) (d9 (d9 zeN (d9 za9 (x9 zao (d9 (j3 (l9 (I9 [zaa,Z] []) (F4 znF (rcP zbw zaO (rcP za4 zaB o8))))) D7) A9))) (d9 (j3 (D6 zcd (F4 (D5 203 [oL0]) zbq))) (d9 (H7 0 (dcP zss sNo (dcP zd5 sNo (dcP zoD sNo (dcR zsd 0 sNo (dcE znF sNo (dcP zss sNo (dcP zd5 sNo (dcP zqV sNo (dcR zan 1 sNo (dcP zav zaO (dcP zaf zaB K9)))))))))))) D7))),none⟩
theorem X7:I8 Tryz.prog 187 f187:=r9 (slots:=[0,1,5,10,2,6,3,4]) (pure:=true) (rc:=false) (by kernel_rfl)
def Tj:SC:=d9 zdh (d9 zex (d9 (p8 1 (d9 znJ (H7 1 (dcP zbx sNo (dcP zcy sNo (dcP zcf sNo (dcP zd3 sNo (dcR zan 0 sNo (dcP zpH sNo (dcP zaG sNo (dcP zcf sNo (dcP zd3 sNo (dcR zan 0 sNo (dcP ze4 sNo (dcL zbE 0 sNo (dcE (eF 2 16 zut oL0) sNo (dcP zav zaE K9))))))))))))))))) zcp))
def f188:SFn:=⟨true,[some 0],13,[.tmp 11,.tmp 12],d9 (j3 (rcL zse zul (rcP zbw za8 zc0))) (d9 (d9 (j3 (D6 zsH (F4 (D5 289 [oL0,zuy]) zaN))) (d9 za9 (x9 zao (d9 (j3 (rcP zbw za8 zkC)) D7) A9))) (d9 (j3 (D6 zsH (F4 (D5 290 [oL0]) (l9 zbQ (l9 zbV (rcP zb0 zaq zgN)))))) (d9 zgp (d9 (d9 (j3 (rcP (lQ zak) zaO zbb)) (p8 0 (F7 Tj))) (d9 (j3 (rcP zbx za8 zc0)) D7))))),none⟩
theorem aP:I8 Tryz.prog 188 f188:=r9 (slots:=[0,1,4,12,5,21,20,22,7,6,8,2,3]) (pure:=true) (rc:=false) (by kernel_rfl)
def f189:SFn:=⟨false,[some 0],3,[.tmp 2],d9 zsz (d9 zbA (d9 (j3 (Q9 (H9 8 0 zat []) (F4 (eF 8 64 oL0 zay) zaN))) D7)),none⟩
theorem aeN:I8 Tryz.prog 189 f189:=r9 (slots:=[0,4,2]) (pure:=false) (rc:=false) (by kernel_rfl)
def Tk:SC:=d9 zaS (d9 zaZ (d9 (p8 1 (d9 (j3 (l9 ztP znZ)) (j3 (l9 zss (D6 zjZ (D6 zrq (F4 (D5 118 [oL1,oL0,zaD,zaL]) (Q9 zcD (F4 (eF 1 8 zsm oL0) zbq))))))))) zaR))
def f190:SFn:=⟨false,[some 0,some 9,some 6,some 7],11,[.tmp 10],d9 zkz (d9 zpe (d9 (d9 zbo (p8 0 (F7 Tk))) (d9 (j3 (F4 (D5 191 [zar]) o8)) (d9 znJ D7)))),none⟩
theorem aeO:I8 Tryz.prog 190 f190:=r9 (slots:=[0,12,11,13,10,7,2,3,9,1,6]) (pure:=false) (rc:=false) (by kernel_rfl)
def f191:SFn:=⟨false,[some 0],2,[],d9 zfv (j3 (l9 zmE (F4 zpY (F4 (D5 291 [zay,zac,zai,oL0]) o8)))),none⟩
theorem aeP:I8 Tryz.prog 191 f191:=r9 (slots:=[0,2]) (pure:=false) (rc:=false) (by kernel_rfl)
def Tm:SC:=d9 zaS (d9 zaZ (d9 (p8 1 (d9 zdW (d9 (j3 (rcE zk3 zaB o8)) (x9 zaC (d9 (j3 (rcP zaU zaJ zpD)) D7) A9)))) zaR))
def f192:SFn:=⟨false,[some 0,some 5],11,[.tmp 9,.tmp 10],d9 (j3 (rcP zbw zaJ zi1)) (d9 (d9 zbo (p8 0 (F7 Tm))) (d9 zgp (d9 (j3 (rcP zbx zaJ zi1)) D7))),none⟩
theorem aeQ:I8 Tryz.prog 192 f192:=r9 (slots:=[0,11,10,12,9,1,7,17,8,4,5]) (pure:=false) (rc:=false) (by kernel_rfl)
def f193:SFn:=⟨false,[some 1,some 0],3,[.tmp 2],d9 zd4 (d9 (j3 (D6 zov (F4 zrV zaN))) D7),none⟩
theorem aeR:I8 Tryz.prog 193 f193:=r9 (slots:=[1,0,3]) (pure:=false) (rc:=false) (by kernel_rfl)
def f194:SFn:=⟨false,[some 2,some 0],5,[.tmp 4],d9 zpi (d9 (d9 zgX (x9 zai (j3 (l9 (uy 9 (M0 (l8.str [99,97,110,110,111,116,32,98,101,32,110,101,103,97,116,105,118,101]))) (F4 (zk oL0) o8))) A9)) (d9 (d9 (j3 (l9 zsi (l9 (QF zal) (l9 (lQ zal) (l9 (pIb jV M8 oL1 oL0) (l9 zpT zs0)))))) (d9 (j3 (rcP (pIb iGt sGt zay zac) zam o8)) (x9 zao (j3 (l9 za4 (l9 za4 (l9 (QF oL0) (Q9 (lSl 1 oL2 none (some oL0)) (F4 (Jl 1 [zaa] 8 oL0 zay) (l9 za4 (l9 zsl (Q9 (lSl 1 oL2 none (some oL0)) zaN))))))))) A9))) znc)),none⟩
theorem aeS:I8 Tryz.prog 194 f194:=r9 (slots:=[1,6,0,16,4]) (pure:=false) (rc:=false) (by kernel_rfl)
def f195:SFn:=⟨false,[some 0,some 1],5,[.cell 4 (some 8)],d9 zgM (d9 (j3 (l9 zsu (l9 zs5 (D6 zan (F4 zpW (l9 (bH (.func 293) [] [zao]) (F4 (D5 292 [oL1,oL0]) (l9 zsu zhU)))))))) (d9 (j3 (D6 zec zpj)) D7)),none⟩
theorem aeT:I8 Tryz.prog 195 f195:=r9 (slots:=[0,1,2,3,4]) (pure:=false) (rc:=false) (by kernel_rfl)
def f196:SFn:=⟨false,[some 0,some 1],4,[.tmp 3],d9 zhw (d9 (j3 (D6 ztA (l9 zsu (D6 zan (F4 zqR zbi))))) D7),none⟩
theorem aeU:I8 Tryz.prog 196 f196:=r9 (slots:=[0,1,2,3]) (pure:=false) (rc:=false) (by kernel_rfl)
def f197:SFn:=⟨false,[some 0,some 1],3,[.tmp 2],d9 zd4 (d9 (j3 (F4 (D5 184 [zay,zai]) ze1)) D7),none⟩
theorem aeV:I8 Tryz.prog 197 f197:=r9 (slots:=[0,1,4]) (pure:=false) (rc:=false) (by kernel_rfl)
def f198:SFn:=⟨false,[some 0,some 4],7,[.tmp 6],d9 (j3 (rcL zse zul zbI)) (d9 (d9 zeL (d9 za9 (x9 zao (d9 zow D7) A9))) (d9 (d9 (j3 (D6 zda (F4 (D5 294 [oL0,zak]) (rcP zsr zaz o8)))) (x9 zar zls A9)) (d9 zdO D7))),none⟩
theorem aeW:I8 Tryz.prog 198 f198:=r9 (slots:=[0,2,5,9,1,14,4]) (pure:=false) (rc:=false) (by kernel_rfl)
def Tn:SC:=d9 zdh (d9 zex (d9 (p8 1 (d9 zfW (d9 (d9 (j3 (D6 zcd (D6 zkP (F4 zos (l9 zbQ (l9 zbV zck)))))) (d9 (j3 (rcP (pIb iEq sEq zaP zac) za8 o8)) (x9 za1 (aA 1) A9))) (d9 (j3 (D6 zcd (D6 zkP (F4 (D5 186 [oL1,oL0]) (l9 zbQ (l9 zbV (rcL zbu zbM (F4 zmS (rcP zsZ za5 o8))))))))) (d9 (d9 zjO (x9 zbl (d9 (j3 (rcP zj9 zcH (rcP zsR zc6 o8))) D7) A9)) (j3 (D6 (J9 7 zbB) (F4 (J4 7 zai oL0) o8)))))))) zcp))
def f199:SFn:=⟨false,[some 0,some 4],22,[.tmp 20,.tmp 21],d9 (j3 (rcL zse zul (rcP zj9 zcH zfM))) (d9 (d9 zeN (d9 za9 (x9 zao (d9 (j3 (rcP zj9 zcH (rcP za4 zc6 o8))) D7) A9))) (d9 (d9 zhx (p8 0 (F7 Tn))) (d9 (j3 (D6 zcd (F4 zsa (l9 zbQ (l9 zbV (l9 (pExt oL2 2) (rcL zfR zbY (F4 zrC (rcP zsZ zbH o8))))))))) (d9 (d9 (j3 (rcP zmc zup o8)) (x9 zbr (d9 (j3 (rcP zj9 zcH (rcP zky zc6 o8))) D7) A9)) (d9 (d9 (j3 (D6 zmt (F4 (D5 285 [oL0]) zlY))) (d9 (j3 (rcP zqS zcE o8)) (x9 zbt (d9 (j3 (rcP zj9 zcH (rcP zeQ zc6 o8))) D7) A9))) (d9 (j3 (D6 zcd (D6 zmt (l9 (I9 [zaa,zaa,Z,Z,Z,Z,Z,zaa,Z] [(0,7,oL1),(7,2,oL0)]) (Q9 (ES oL0) (rcP zav zcH zfM)))))) D7)))))),none⟩
theorem aeX:I8 Tryz.prog 199 f199:=r9 (slots:=[0,2,6,21,1,25,24,26,23,8,10,36,12,44,11,15,55,13,16,63,4,5]) (pure:=false) (rc:=false) (by kernel_rfl)
def f200:SFn:=⟨false,[some 0,some 1],7,[.tmp 6],d9 (j3 (rcL zse zam (rcL zb2 zsp zbI))) (d9 (p8 0 (d9 (j3 (l9 zsu (D6 zan (l9 zdv (D6 zan (l9 (pIb iLe sLe oL2 oL0) (l9 (gP oL0 true zcJ) (D6 zsf (l9 (gP oL2 true zsL) (D6 zsq (l9 ztU zio))))))))))) (x9 zak zls (d9 (j3 (l9 zcJ (D6 zan (l9 zsu (D6 zan (l9 zot (l9 (gP oL0 false zsL) (D6 zbP (l9 (gP oL2 false zdv) (D6 zjk (l9 (gP zsm false zot) (l9 zfx zbq)))))))))))) (x9 zar (d9 (j3 (rcP zdF zaO o8)) D7) A9))))) (d9 (j3 (rcP zl9 zaO o8)) D7)),none⟩
theorem aeY:I8 Tryz.prog 200 f200:=r9 (slots:=[0,1,3,2,5,18,4]) (pure:=false) (rc:=false) (by kernel_rfl)
def f201:SFn:=⟨false,[some 1,some 0],5,[.cell 4 (some 2)],d9 (j3 (rcL zse zam (rcL zaH zaq o8))) (d9 (j3 (l9 (bH (.func 295) [zai] []) (l9 (bH (.func 296) [zai] []) (l9 (I9 [l8.nilFunc,l8.nilFunc] [(0,1,oL1),(1,1,oL0)]) (rcL zqZ zsp zcX))))) (d9 (H7 0 (dcP (au 1 2 zal zac) sNo (dcR zan 0 sNo (dcR zdT 0 sNo (dcE zlC sNo (dcP (au 1 2 zal zae) sNo (dcR zan 1 sNo (dcR zdT 1 sNo (dcE zlC sNo (dcP ze4 sNo (dcE znF sNo K9))))))))))) D7)),none⟩
theorem aeZ:I8 Tryz.prog 201 f201:=r9 (slots:=[1,0,5,3,4]) (pure:=false) (rc:=false) (by kernel_rfl)
def f202:SFn:=⟨false,[some 0,some 1],6,[.cell 4 (some 7),.tmp 5],d9 (j3 (rcL zse zam (rcL zb2 zsp zhl))) (d9 (H7 0 (dcP zeA sNo (dcR zan 0 sNo (dcE zma sNo (dcP zdR sNo (dcR zan 1 sNo (dcE zma sNo (dcP zeA sNo (dcE (J4 1 oL0 zsm) sNo (dcP zdR sNo zhG)))))))))) (d9 (j3 (D6 ziD (l9 (bH (.func 297) [] [zal]) zh8))) D7)),none⟩
theorem af0:I8 Tryz.prog 202 f202:=r9 (slots:=[0,1,3,2,4,5]) (pure:=false) (rc:=false) (by kernel_rfl)
def f203:SFn:=⟨false,[some 0],4,[.tmp 3],d9 (j3 (rcL zse zul (rcP zj9 zam o8))) (d9 (j3 (D6 zcd (l9 (I9 [zaa,zaa,Z,Z,Z,Z,Z,Z,zaa,Z,Z] [(0,7,oL0)]) (Q9 (ES oL0) zaN)))) (d9 (j3 (F4 (D5 298 [zal]) o8)) ziQ)),none⟩
theorem af2:I8 Tryz.prog 203 f203:=r9 (slots:=[0,1,3,2]) (pure:=false) (rc:=false) (by kernel_rfl)
def f204:SFn:=⟨false,[some 2,some 0,some 3],5,[.tmp 4],d9 zcv (d9 (d9 zf8 (x9 zai (d9 zcv D7) A9)) (d9 (H7 0 (dcP za4 sNo (dcP zd5 sNo (dcP zrs sNo (dcR zan 0 sNo (dcP zsi sNo (dcP zfw sNo (dcR zan 0 sNo (dcP zsD sNo (dcP zgZ sNo (dcE (D5 286 [zuk,oL0]) sNo (dcP zax sNo zhr)))))))))))) D7)),none⟩
theorem af3:I8 Tryz.prog 204 f204:=r9 (slots:=[1,9,0,2,6]) (pure:=false) (rc:=false) (by kernel_rfl)
def f205:SFn:=⟨false,[some 1,some 0],4,[.tmp 3],d9 (j3 (rcL zse zsp zqF)) (d9 (j3 (F4 (D5 153 [zai]) (l9 (bH (.func 300) [] [zal]) (F4 (D5 299 [oL1,oL0]) zbi)))) D7),none⟩
theorem af4:I8 Tryz.prog 205 f205:=r9 (slots:=[1,0,3,4]) (pure:=false) (rc:=false) (by kernel_rfl)
def f206:SFn:=⟨false,[some 0,some 2,some 3],10,[.tmp 8,.tmp 9],d9 (j3 (rcL zse zul zix)) (d9 (d9 (j3 (D6 zsH (Q9 (H9 1 2 [zaa] [(0,1,zal),(1,1,zao)]) (F4 (D5 289 [oL1,oL0]) zsj)))) (d9 zdz (x9 zar (d9 (j3 (rcP zaf zaE (rcP zaG zaJ o8))) D7) A9))) (d9 (j3 (D6 zsH (F4 (D5 301 [oL0,zjD,zal]) (l9 (H8 1 oL0 zao) (D6 zan zbm))))) (d9 (d9 (j3 (rcP (pIb iEq sEq zau zkq) zaB o8)) zgg) (d9 (j3 (rcP zaU zaE zbe)) D7)))),none⟩
theorem af5:I8 Tryz.prog 206 f206:=r9 (slots:=[0,3,1,2,8,16,9,25,6,7]) (pure:=false) (rc:=false) (by kernel_rfl)
def f207:SFn:=⟨false,[some 0,some 1,some 2],15,[.cell 12 (some 2),.tmp 14],d9 (j3 (rcL zse zam (rcL zb2 zaq (rcL zqC zby (rcL zaH za5 zcZ))))) (d9 (H7 2 (dcR ziD 0 sNo (dcR zlW 0 sNo (dcE (D5 302 [oL1,oL0]) sNo (dcR ziD 1 sNo (dcR zlW 1 sNo (dcE (D5 303 [oL1,oL0]) sNo (dcL za7 0 zaz (dcL zaH 1 zaB znk))))))))) (d9 (j3 (l9 zl0 (D6 zsd (F4 (D5 304 [oL0]) zia)))) (d9 (j3 (l9 zlZ (D6 zsd (F4 (D5 305 [oL0]) (l9 zbQ (l9 zbV zhY)))))) (d9 (H7 0 (dcP zaU sNo (dcP zfH sNo (dcR zan 0 sNo (dcP zgU sNo (dcP zrW sNo (dcR zan 0 sNo (dcP zsS sNo (dcP zbx sNo (dcP zgx sNo (dcR zan 0 sNo (dcP zgU sNo (dcP zrW sNo (dcR zan 0 sNo (dcP zgU sNo (dcP (aj zsJ) zaJ zqD)))))))))))))))) (d9 (d9 (j3 (rcP (pIb iGt sGt zaL zaP) za8 o8)) (x9 za1 (d9 (j3 (l9 zdd (F4 zqG (rcP zdS zbM o8)))) D7) A9)) (d9 (j3 (l9 (F8 0 zbl) (D6 zan (l9 (pIb bG bI oL0 zaL) (l9 (F8 1 zbl) (D6 zan (l9 (pIb bG bI oL0 zaP) (l9 zg1 (F4 zqG zcZ))))))))) D7)))))),none⟩
theorem af6:I8 Tryz.prog 207 f207:=r9 (slots:=[0,1,2,3,4,8,10,9,12,14,15,50,6,5,7]) (pure:=false) (rc:=false) (by kernel_rfl)
def f208:SFn:=⟨false,[some 0],2,[.tmp 1],d9 zox (d9 (j3 (F4 (D5 306 [zay]) zsh)) D7),none⟩
theorem af7:I8 Tryz.prog 208 f208:=r9 (slots:=[0,2]) (pure:=false) (rc:=false) (by kernel_rfl)
def f225:SFn:=⟨false,[some 0],3,[.tmp 2],d9 zlI (d9 (j3 (l9 zf6 (l9 zcu (D6 zan (l9 zf6 (l9 zc4 (D6 zan (Q9 (H9 1 2 [zaa] [(0,1,oL3),(1,1,oL0)]) (F4 (D5 132 [M0 (l8.str [119,105,116,104,100,114,97,119]),oL0]) zaN))))))))) D7),none⟩
theorem af8:I8 Tryz.prog 225 f225:=r9 (slots:=[0,1,2]) (pure:=false) (rc:=false) (by kernel_rfl)
def f227:SFn:=⟨false,[some 0],3,[.tmp 2],d9 zd4 (d9 (j3 (F4 (D5 309 [zay,zuy]) (l9 zbQ (l9 zbV (l9 (pExt oL2 2) zsh))))) (d9 (j3 (l9 (pIb iEq sEq zai zac) zaN)) D7)),none⟩
theorem af9:I8 Tryz.prog 227 f227:=r9 (slots:=[0,5,2]) (pure:=false) (rc:=false) (by kernel_rfl)
def Tp:SC:=zaX
def Tq:SC:=d9 zbF (d9 (p8 1 (d9 zdQ (p8 2 (F7 Tp)))) zbf)
def f228:SFn:=⟨false,[some 6,some 0,some 2,some 5],8,[],d9 zb3 (p8 0 (F7 Tq)),none⟩
theorem afa:I8 Tryz.prog 228 f228:=r9 (slots:=[1,8,2,14,9,3,0,34]) (pure:=false) (rc:=false) (by kernel_rfl)
def f237:SFn:=⟨false,[some 0],5,[.tmp 3],d9 zev (d9 (d9 (j3 (rcP (pIb iGe sGe zay (M0 (l8.int .u64 (Int.ofNat 4294967296)))) zul o8)) (x9 zai (d9 (j3 (l9 zsi (l9 (Jk oL0 (M0 (l8.int .u64 (Int.ofNat 32)))) zs0))) (j3 (rcP (aj (M0 (l8.int .i64 (Int.ofNat 32)))) zam o8))) A9)) (d9 (d9 (j3 (rcP (pIb iGe sGe zay (M0 (l8.int .u64 (Int.ofNat 65536)))) zsp o8)) (x9 zal (d9 (j3 (l9 zsi (l9 (Jk oL0 (M0 (l8.int .u64 (Int.ofNat 16)))) zs0))) (j3 (l9 zsD (l9 (pIb bG bI oL0 (M0 (l8.int .i64 (Int.ofNat 16)))) zbi)))) A9)) (d9 (d9 (j3 (rcP (pIb iGe sGe zay (M0 (l8.int .u64 (Int.ofNat 256)))) zaq o8)) (x9 zak (d9 (j3 (l9 zsi (l9 (Jk oL0 (M0 (l8.int .u64 (Int.ofNat 8)))) zs0))) (j3 (l9 zsD (l9 (pIb bG bI oL0 zsO) zbi)))) A9)) (d9 (j3 (l9 zsD (l9 (iC .u8 zay) (l9 (zV (M0 (l8.str [0,1,2,2,3,3,3,3,4,4,4,4,4,4,4,4,5,5,5,5,5,5,5,5,5,5,5,5,5,5,5,5,6,6,6,6,6,6,6,6,6,6,6,6,6,6,6,6,6,6,6,6,6,6,6,6,6,6,6,6,6,6,6,6,7,7,7,7,7,7,7,7,7,7,7,7,7,7,7,7,7,7,7,7,7,7,7,7,7,7,7,7,7,7,7,7,7,7,7,7,7,7,7,7,7,7,7,7,7,7,7,7,7,7,7,7,7,7,7,7,7,7,7,7,7,7,7,7,8,8,8,8,8,8,8,8,8,8,8,8,8,8,8,8,8,8,8,8,8,8,8,8,8,8,8,8,8,8,8,8,8,8,8,8,8,8,8,8,8,8,8,8,8,8,8,8,8,8,8,8,8,8,8,8,8,8,8,8,8,8,8,8,8,8,8,8,8,8,8,8,8,8,8,8,8,8,8,8,8,8,8,8,8,8,8,8,8,8,8,8,8,8,8,8,8,8,8,8,8,8,8,8,8,8,8,8,8,8,8,8,8,8,8,8,8,8,8,8,8,8,8,8,8,8,8,8])) oL0) (l9 (iC .i64 oL0) (l9 zkT zbi)))))) D7)))),none⟩
theorem afb:I8 Tryz.prog 237 f237:=r9 (slots:=[0,4,8,2,14]) (pure:=false) (rc:=false) (by kernel_rfl)
def Tt:SC:=zaY
def Tv:SC:=d9 zbF (d9 (p8 1 (d9 zdQ (p8 2 (F7 Tt)))) zbf)
def f238:SFn:=⟨false,[some 6,some 0,some 2,some 5],8,[],d9 zb3 (p8 0 (F7 Tv)),none⟩
theorem afc:I8 Tryz.prog 238 f238:=r9 (slots:=[1,8,2,14,9,3,0,34]) (pure:=false) (rc:=false) (by kernel_rfl)
def Tw:SC:=d9 (d9 (H7 0 (dcP zaG sNo (dcP zsi sNo (dcP zta sNo (dcP zav sNo (dcP zsE sNo (dcP ztr sNo (dcP zts sNo (dcP zrB sNo (dcR (gRd zsm true zhD) 0 sNo (dcP ztl sNo (dcP zsX sNo (dcP ztm sNo (dcP (gP zte true zrE) sNo (dcR (gRd zum true zhD) 0 sNo zsg))))))))))))))) zsA) (d9 (p8 3 (H7 0 (dcP zaU sNo (dcP zaG sNo (dcP zaU sNo (dcP zaG sNo (dcP zaw sNo (dcP zrE sNo (dcR zhD 0 sNo (dcP zaU sNo (dcP zaG sNo (dcP zn2 sNo (dcR zhD 0 sNo (dcP (H8 4 zuo zum) sNo (dcE (J4 4 oL0 zuk) sNo (dcP zaU sNo (dcP zaG sNo (dcP zaw sNo (dcP zrE sNo (dcE (J4 4 oL0 zsC) sNo K9)))))))))))))))))))) zsx)
def Tx:SC:=d9 zbF (d9 (p8 1 (d9 zdQ (p8 2 (F7 Tw)))) zbf)
def f246:SFn:=⟨false,[some 6,some 0,some 2,some 5],8,[],d9 zb3 (p8 0 (F7 Tx)),none⟩
theorem afd:I8 Tryz.prog 246 f246:=r9 (slots:=[1,8,2,14,9,3,0,34]) (pure:=false) (rc:=false) (by kernel_rfl)
def Tz:SC:=zaX
def TA:SC:=d9 zbF (d9 (p8 1 (d9 zdQ (p8 2 (F7 Tz)))) zbf)
def f248:SFn:=⟨false,[some 6,some 0,some 2,some 5],8,[],d9 zb3 (p8 0 (F7 TA)),none⟩
theorem afe:I8 Tryz.prog 248 f248:=r9 (slots:=[1,8,2,14,9,3,0,34]) (pure:=false) (rc:=false) (by kernel_rfl)
def TB:SC:=zaY
def TD:SC:=d9 zbF (d9 (p8 1 (d9 zdQ (p8 2 (F7 TB)))) zbf)
def f250:SFn:=⟨false,[some 6,some 0,some 2,some 5],8,[],d9 zb3 (p8 0 (F7 TD)),none⟩
theorem aff:I8 Tryz.prog 250 f250:=r9 (slots:=[1,8,2,14,9,3,0,34]) (pure:=false) (rc:=false) (by kernel_rfl)
def f258:SFn:=⟨false,[some 0],4,[.tmp 3],d9 zfF (d9 (j3 (l9 zdi (D6 zsd (F4 zsb (l9 zmK (l9 zkD (D6 zdD (F4 (gE oL3 true (D5 324 [oL0,M0 (l8.int .i64 (Int.negSucc 999)),zsY])) (l9 zsn (l9 zmK (l9 zgt (D6 zdD (l9 (gP oL3 true (pIb iLe sLe oL0 zfr)) ziX))))))))))))) (d9 (j3 (l9 zbz (D6 zan (F4 zkU (l9 zh4 (D6 zsf (F4 (gE oL2 true (D5 260 [oL0])) (l9 zcl (l9 zjW (D6 zsf (F4 (gE oL2 true (D5 324 [oL0,zae,ztK])) (l9 zcl (l9 zmG (D6 zeP (F4 (gE oL2 true (D5 161 [oL0,M0 (l8.int .i64 (Int.negSucc 1073741823)),zg5])) (l9 zcl (l9 zrc (l9 zlB (l9 zmH (D6 zsf (F4 (gE oL2 true (D5 324 [oL0,zac,M0 (l8.int .i64 (Int.ofNat 1048576))])) (l9 zcl zbi)))))))))))))))))))))) D7)),none⟩
theorem afg:I8 Tryz.prog 258 f258:=r9 (slots:=[0,1,3,2]) (pure:=false) (rc:=false) (by kernel_rfl)
def f259:SFn:=⟨false,[some 3,some 0,some 2],5,[.tmp 4],d9 zcv (d9 (d9 (j3 (F4 (D5 260 [zay]) (rcP zsr zul o8))) (x9 zai (d9 (j3 znd) D7) A9)) (d9 (j3 (D6 zpS (F4 (D5 261 [oL0,zao,zay]) zsj))) D7)),none⟩
theorem afh:I8 Tryz.prog 259 f259:=r9 (slots:=[1,8,2,0,5]) (pure:=false) (rc:=false) (by kernel_rfl)
def f260:SFn:=⟨false,[some 0],2,[.tmp 1],d9 zeH (d9 (j3 (F4 (D5 324 [zay,zac,zsW]) zsh)) D7),none⟩
theorem afi:I8 Tryz.prog 260 f260:=r9 (slots:=[0,2]) (pure:=false) (rc:=false) (by kernel_rfl)
def f261:SFn:=⟨false,[some 0,some 1,some 4],8,[.tmp 7],d9 zbC (d9 (j3 (D6 (ay T9 1 zdg true zay zai) (l9 zbQ (l9 zbV (rcL zaW zaz ztE))))) (d9 (p8 0 (d9 zmX (x9 zao zk9 (d9 (j3 (l9 zl1 (D6 zan (l9 zuw zbm)))) (x9 zau (d9 (j3 (rcP zpZ zaB o8)) D7) A9))))) zeS)),none⟩
theorem afj:I8 Tryz.prog 261 f261:=r9 (slots:=[0,1,8,15,2,7,18,6]) (pure:=false) (rc:=false) (by kernel_rfl)
end
end Go.Proofs.YtefodipjjofocaaGreatDoor.TT

/- The tables: each function of the program is the code that stands here; no condition. -/
import Derived.Test.YtefodipjjofocaaGreatDoorMB0
import Derived.KernelRfl
import Derived.Test.YtefodipjjofocaaGreatDoorProg
set_option linter.unusedSimpArgs false
set_option linter.unusedVariables false
namespace Go.Proofs.YtefodipjjofocaaGreatDoor.TT
open Go Go.AM
set_option maxRecDepth 100000
noncomputable section
def agi:SC:=d9 zk9 (d9 zlo (d9 (u6 3 (d9 (j4 (o9 (J3 8 za3 zaK) (F9 ztr (rcL zaY zbF zcV)))) (j4 (F9 (eT zbt) (o9 (H8 0 zbB) (F9 zao (o9 znY (F9 zao (G8 (bn X9 1 ztu oL2 oL0) u7))))))))) zje))
def agj:SC:=d9 (d9 (j4 (o9 zcO zld)) zer) (d9 (u6 1 (d9 (I9 0 (dcP zcO sNo (dcR zao 0 sNo (dcP ztx sNo (dcP zed sNo (dcR zao 0 sNo (dcP zcO sNo (dcR zao 0 sNo (dcP ztx sNo (dcP zaw sNo (dcP zgj sNo (dcR zao 0 sNo (dcP zp8 zaD M0))))))))))))) (C9 zaC zlp D6))) zcj)
def f93:SFn:=⟨false,[some 0,some 1,some 2],23,[.tmp 22],d9 (j4 (rcL ztl zaE zie)) (d9 (j4 (o9 (J3 2 zai zal) (F9 ztk (rcL zgb zan zdb)))) (d9 (d9 (j4 (o9 zdn (F9 zao (o9 zvx (o9 zqt (F9 zbV (o9 (gP oL2 false (pIb iGe sGe oL0 zt3)) (o9 zdZ (o9 zmk (F9 zbV (o9 zgk (o9 (gP oL3 false (pIb iLt sLt oL0 zaH)) (o9 zcz (o9 zmk (F9 zbV (o9 zgk (o9 (gP oL3 false (pIb iGt sGt oL0 zbo)) zkW))))))))))))))))) (C9 zak zlp D6)) (d9 (d9 zit (u6 0 (H6 agj))) (d9 (j4 (R9 jw (rcL zrt zbz zcB))) (d9 (d9 (j4 (o9 zgR (rcR zao za6 zkQ))) (u6 2 (H6 agi))) (d9 (j4 (o9 (dD (.func 166) [] [zbt]) zht)) (d9 (j4 (o9 (dD (.func 167) [] [zam,zbt]) zcE)) (d9 (j4 (o9 (dD (.func 168) [] [zaB,zam]) zgt)) (d9 (u6 4 (d9 (j4 (o9 zcO (F9 zao (G8 (D8 62 [oL0,zbl]) zea)))) (C9 zbw (d9 (j4 (rcP zd4 zuw u7)) F8) (d9 (j4 (o9 zcO (F9 zao (G8 (D8 62 [oL0,zbO]) zjH)))) (C9 zbx (d9 (j4 (rcP zqW zuw u7)) F8) (d9 (I9 0 (dcP za4 sNo (dcP ztP sNo (dcP zau sNo (dcP (gP oL0 true zdn) sNo (dcR ztm 0 sNo (dcP zuZ sNo (dcP (gP oL3 true za4) sNo (dcP ziu sNo (dcP (gP zvs true zua) sNo (dcP (gP ztK true zct) sNo (dcR zsC 0 sNo (dcP (gP zuc true zp8) sNo (dcP zs8 sNo (dcP zau zcC M0))))))))))))))) (C9 zbr (d9 (j4 (rcP zhL zuw u7)) F8) (d9 (j4 (o9 zcO (F9 zao (G8 (D8 62 [oL0,zb1]) zmw)))) (C9 zbE (d9 (j4 (rcP ze8 zuw u7)) F8) D6))))))))) (d9 (j4 zie) F8)))))))))),none⟩
theorem axu:J6 Tryz.prog 93 f93:=A9 (slots:=[0,1,2,7,38,8,43,57,3,62,61,63,60,9,11,12,75,13,80,85,14,99,6]) (pure:=false) (rc:=false) (by kernel_rfl)
def f98:SFn:=⟨false,[some 0,some 1,some 3],5,[.tmp 4],zaT,none⟩
theorem axv:J6 Tryz.prog 98 f98:=A9 (slots:=[0,1,3,2,6]) (pure:=false) (rc:=false) (by kernel_rfl)
def f99:SFn:=⟨false,[some 0],5,[.tmp 4],d9 zmU (d9 (j4 (o9 zdw (F9 ztk (G8 (D8 170 [oL0]) zaM)))) (d9 (d9 (j4 (o9 (uJ zal) (o9 zke (o9 (gP oL1 false zct) (F9 zle (G8 (gE oL3 false (D8 107 [oL0,O5 (o8.int .i64 (Int.negSucc 999)),zt5])) (o9 zmO (o9 zfP (o9 zke (o9 (gP oL1 false zc9) (F9 zle (o9 (gP oL3 false (pIb iGt sGt oL0 zfI)) zpf)))))))))))) zln) (d9 (j4 (o9 zbG (F9 zao (G8 zlu (o9 ziv (F9 ztm (G8 zs9 (o9 zce (o9 zkw (F9 ztm (G8 (gE oL2 true (D8 107 [oL0,zae,zuS])) (o9 zce (o9 znk (F9 ze7 (G8 (gE oL2 true (D8 98 [oL0,O5 (o8.int .i64 (Int.negSucc 1073741823)),zhs])) (o9 zce (o9 znl (F9 ztm (G8 (gE oL2 true zlT) (o9 zce ztq)))))))))))))))))))) F8))),none⟩
theorem axw:J6 Tryz.prog 99 f99:=A9 (slots:=[0,1,3,21,2]) (pure:=false) (rc:=false) (by kernel_rfl)
def Li:SC:=d9 (d9 (j4 (o9 zd3 zg6)) zaW) (d9 (u6 1 (d9 (d9 (j4 (o9 zd3 (F9 zao (o9 (J3 2 oL0 zai) (o9 zc9 (F9 zao (G8 zpI zod))))))) (C9 zak zg8 D6)) (d9 (I9 0 (dcR zfk 0 sNo (dcP zd3 sNo (dcR zao 0 sNo (dcP zaZ sNo (dcP ztF sNo (dcP zct sNo (dcR zao 0 sNo (dcP zd3 sNo (dcR zao 0 sNo (dcP zaZ sNo (dcP ztF sNo (dcP zc9 sNo (dcR zao 0 sNo (dcE zsB sNo zsf))))))))))))))) (d9 zev zcm)))) zbk)
def f100:SFn:=⟨false,[some 0],8,[.tmp 7],d9 (j4 (rcL ztl zty zbn)) (d9 (d9 zd8 (u6 0 (H6 Li))) zfa),none⟩
theorem agk:J6 Tryz.prog 100 f100:=A9 (slots:=[0,3,1,9,19,4,35,2]) (pure:=false) (rc:=false) (by kernel_rfl)
def Wh:SC:=d9 (d9 (j4 (o9 zd3 (F9 zao (o9 ztt znA)))) (C9 za3 D6 zuK)) (d9 (u6 5 (d9 (I9 0 (dcP zd3 sNo (dcR zao 0 sNo (dcP zb3 sNo (dcP ztF sNo (dcP zct sNo (dcR zao 0 sNo (dcP zgc sNo (dcR zao 0 sNo (dcP zdm sNo (dcP zau sNo (dcP zkp sNo (dcR ztm 0 sNo (dcP (gP oL2 true zb3) sNo (dcP zun sNo (dcP zl0 sNo (dcR zgL 0 sNo (dcP (gP ztK true ziX) sNo (dcP zsz sNo (dcR ziI 0 sNo (dcP (gP zvu true ziX) sNo (dcP (gP zvw true zc9) sNo (dcR (gRd zvC true zao) 0 sNo (dcE (gE zvz true (D8 107 [ztK,oL3,oL0])) sNo (dcP zvD zbz M0))))))))))))))))))))))))) (C9 zbt zlK D6))) zif)
def Wi:SC:=d9 (d9 (j4 (rcP (pIb iLt sLt zaB zai) zaG u7)) zlq) (d9 (u6 3 (d9 (I9 0 (dcP zfE sNo (dcR zao 0 sNo (dcP zbf sNo (dcP zoN sNo (dcP zct sNo (dcR zao 0 sNo (dcP zgc sNo (dcR zao 0 sNo (dcP zdm sNo (dcP zau sNo (dcP zkq sNo (dcR ztm 0 sNo (dcP (gP oL2 true zbf) sNo (dcP zsF sNo (dcP zl0 sNo (dcP (gP zvs true zct) sNo (dcR zoO 0 sNo (dcP (gP ztN true ziX) sNo (dcP zoB sNo (dcR zme 0 sNo (dcP (gP zvw true (pIb iLe sLe oL3 oL0)) sNo (dcP zmz sNo (dcP zau sNo (dcP (gP oL0 true ziX) sNo (dcP zlg sNo (dcR zdM 0 sNo (dcP (gP oL3 true zfE) sNo (dcR ziE 0 sNo (dcP (gP zvs true zbf) sNo (dcP (gP ztK true zoN) sNo (dcP (gP ztN true zc9) sNo (dcP zoB sNo (dcR zme 0 sNo (dcP (gP zvw true zp6) sNo (dcP zmz zaV M0)))))))))))))))))))))))))))))))))))) (C9 zaR zlK D6))) zeC)
def Lj:SC:=d9 (d9 (j4 (o9 zfE zg6)) zaW) (d9 (u6 1 (d9 (j4 (o9 zfE (F9 zao (o9 (J3 4 oL0 zai) (F9 zh0 (rcL zbc zaq zmB)))))) (d9 (d9 (j4 (o9 ziX (F9 ztk (G8 (D8 98 [oL0,zac,zt3]) (o9 ztz (o9 (gP oL0 false (H8 3 zak)) (F9 zbV (G8 (gE oL2 false zlT) (o9 zfx (rcP zcz zaz u7)))))))))) (C9 zap (d9 (j4 (rcP zaX zbF u7)) F8) D6)) (d9 (j4 (F9 zfk (o9 zgc (F9 zao (o9 ziX (o9 zct (F9 zao (G8 (D8 104 [zvs,oL3,oL0]) zbs)))))))) (d9 (d9 zcR (C9 zaC (d9 (j4 (rcP zaU zbF u7)) F8) D6)) (d9 (d9 zhP (u6 2 (H6 Wi))) (d9 (j4 zd6) (u6 4 (H6 Wh))))))))) zbk)
def f101:SFn:=⟨false,[some 0],15,[.tmp 14],d9 (j4 (rcL ztl zty zdd)) (d9 (d9 zd8 (u6 0 (H6 Lj))) (d9 (j4 zdd) F8)),none⟩
theorem agl:J6 Tryz.prog 101 f101:=A9 (slots:=[0,3,1,12,4,29,5,38,6,42,79,7,84,110,2]) (pure:=false) (rc:=false) (by kernel_rfl)
def Ll:SC:=d9 (d9 (j4 (o9 (lV zak) (rcP (pIb iLt sLt zbt oL0) zbF u7))) (C9 zbB D6 (bf 10))) (d9 (u6 11 (d9 (j4 (o9 zo4 (F9 zao (rcP (pIb iGt sGt oL0 za2) zbD u7)))) (C9 zbl (j4 (o9 zd9 (o9 zo4 (F9 zao (o9 zrM zea))))) D6))) (j4 (o9 zuP (o9 zax zeK))))
def Lm:SC:=d9 (d9 (j4 (rcP (pIb iLt sLt za2 znm) za6 u7)) (C9 za3 D6 (bf 8))) (u6 9 (d9 (j4 (rcP (bg znm) zvy u7)) (d9 (d9 zhT (u6 10 (H6 Ll))) (d9 (j4 (rcP zd9 za8 u7)) (d9 (I9 0 (dcP zb3 sNo (dcP (pIb iLt sLt oL0 znm) sNo (dcP zau sNo (dcR (gRd oL0 true zfk) 0 sNo (dcP (gP oL1 true zeQ) sNo (dcR zdM 0 sNo (dcP (gP oL3 true zcr) sNo (dcP (gP ztu true ztZ) sNo (dcR zst 0 sNo (dcP zpR sNo (dcE (gE ztN true (D8 172 [ztK,oL1,oL0])) sNo (dcP zkR sNo (dcP zau zb6 M0)))))))))))))) (d9 (j4 (rcP zdV zcS u7)) (C9 zbx (j4 (o9 zdL (o9 zeQ (F9 zao (o9 (J3 8 oL0 zaK) (o9 zct (F9 zao (o9 (J9 [zaa,zaa] [(0,1,oL0),(1,1,za2)]) (R9 zbK (G8 (dG 2 16 ztN oL0) zjI)))))))))) D6)))))))
def Lr:SC:=d9 (d9 (j4 (o9 zeQ (F9 zao (o9 ztt (rcP (pIb iLt sLt zaK oL0) zaV u7))))) (C9 zaR D6 zqs)) (d9 (u6 7 (d9 (j4 (rcP zch za8 u7)) (u6 8 (H6 Lm)))) (j4 (o9 zcr (o9 zax zbX))))
def Ls:SC:=d9 (d9 (j4 (o9 zi9 (F9 zao (o9 ztt (rcP (pIb iLt sLt zaC oL0) zaE u7))))) zvn) (d9 (u6 5 (j4 (o9 zaF (o9 zi9 (F9 zao (o9 (J3 2 oL0 zaC) zd7)))))) (j4 (o9 zcI (o9 zax zc0))))
def Lu:SC:=d9 (d9 (j4 (o9 znL zld)) zl6) (d9 (u6 3 (j4 (o9 zaF (o9 znL (F9 zao (o9 zsi zd7)))))) zcj)
def Lv:SC:=d9 (d9 (j4 (o9 zeQ zg6)) zaW) (d9 (u6 1 (j4 (o9 zaF (o9 zeQ (F9 zao (o9 (J3 8 oL0 zai) zd7)))))) zbk)
def f105:SFn:=⟨false,[some 0],21,[.tmp 20],d9 (j4 (rcL ztl zty zpZ)) (d9 zlX (d9 (d9 zd8 (u6 0 (H6 Lv))) (d9 (d9 zeJ (u6 2 (H6 Lu))) (d9 (d9 zbI (u6 4 (H6 Ls))) (d9 (j4 (rcP zbu zcC u7)) (d9 (d9 zdl (u6 6 (H6 Lr))) (d9 zmY F8))))))),none⟩
theorem agm:J6 Tryz.prog 105 f105:=A9 (slots:=[0,4,1,17,3,5,33,6,49,8,65,9,69,11,73,81,10,12,101,7,2]) (pure:=false) (rc:=false) (by kernel_rfl)
def Lx:SC:=d9 (d9 zh6 zpL) (d9 (u6 5 (d9 (j4 (o9 zdw (F9 zao (o9 zru (F9 ztr (rcL zaL zbF zcV)))))) (d9 (I9 0 (dcP zr6 sNo (dcR zao 0 sNo (dcP zr7 sNo (dcR zao 0 sNo (dcE zph sNo (dcR zcl 1 sNo (dcP znY sNo (dcR zao 1 sNo (dcP zhn sNo (dcE (D8 174 [oL3,oL0]) sNo (dcP zau zvy M0)))))))))))) (d9 (I9 0 (dcP zr7 sNo (dcR zao 0 sNo (dcP zr6 sNo (dcR zao 0 sNo (dcE zph sNo (dcR zcl 1 sNo (dcP znY sNo (dcR zao 1 sNo (dcP zhn sNo (dcE (D8 174 [oL3,oL0]) sNo (dcP zau zbD M0)))))))))))) (d9 (j4 (F9 zcl (F9 (K9 8 zbB) (G8 (D8 176 [oL1,oL0]) (rcL zaJ zb6 zdb))))) (d9 (j4 (o9 zf0 (F9 zao (o9 zrf (F9 zao (o9 (J9 za9 [(0,1,zbl),(1,1,zbw),(2,1,oL0)]) (o9 zm6 (F9 zao (o9 zo5 (o9 (J9 za9 [(0,1,zbw),(1,1,zbl),(2,1,oL0)]) (R9 (I6 3 2 za9 [(0,3,ztu),(3,3,oL0)]) (G8 (dG 3 24 zuc oL0) ziB)))))))))))) (j4 (o9 zvd (F9 zao (o9 ziY (o9 ziY zdE))))))))))) zeF)
def LA:SC:=d9 (d9 (j4 (o9 (lV zap) (rcP zvF zaN u7))) zl6) (d9 (u6 3 (d9 (d9 (I9 0 (dcP ztx sNo (dcP zaF sNo (dcP ztF sNo (dcP zct sNo (dcR zao 0 sNo (dcP zfZ sNo (dcR zao 0 sNo (dcP zrL zaE M0))))))))) (C9 zaB (bf 3) D6)) (d9 (I9 0 (dcP ztx sNo (dcP zaF sNo (dcP ztF sNo (dcP zc9 sNo (dcR zao 0 sNo (dcP zgU sNo (dcR zao 0 sNo (dcP zdm zaG M0))))))))) (C9 zaK (d9 (j4 (o9 zf0 (F9 zao (o9 zcq (o9 zgS (F9 zao (o9 zjm (o9 zc9 (F9 zao (o9 zlv (o9 (J9 za9 [(0,1,zac),(1,1,ztK),(2,1,oL0)]) (o9 zcq (o9 zgS (F9 zao (o9 zo5 (o9 zjm (o9 zct (F9 zao (o9 zuX (o9 (J9 za9 [(0,1,ztN),(1,1,zac),(2,1,oL0)]) (R9 (I6 3 2 za9 [(0,3,zvu),(3,3,oL0)]) (G8 (dG 3 24 (lD 18) oL0) ziB)))))))))))))))))))))) (j4 (o9 zvd (F9 zao (o9 zjx (o9 zjx zdE)))))) (d9 (I9 0 (dcR zcl 0 sNo (dcP zfZ sNo (dcR zao 0 sNo (dcP ztx sNo (dcP zaF sNo (dcP zaw sNo (dcP zua sNo (dcP zc9 sNo (dcR zao 0 sNo (dcP ztx sNo (dcP zaF sNo (dcP ztF sNo (dcP zc9 sNo (dcR zao 0 sNo (dcE (D8 173 [zvO,zvC,zvs,oL0]) sNo (dcP zau za8 M0))))))))))))))))) (d9 (j4 (o9 zf0 (F9 zao (o9 zcq (o9 (J9 za9 [(0,1,zak),(1,1,oL0),(2,1,zac)]) (o9 zcq (o9 (J9 za9 [(0,1,oL0),(1,1,zak),(2,1,za2)]) (R9 (I6 3 2 za9 [(0,3,oL2),(3,3,oL0)]) (G8 (dG 3 24 zvs oL0) ziB))))))))) (j4 (o9 zvd (F9 zao (o9 zjy (o9 zjy zdE))))))))))) ztU)
def LB:SC:=d9 (d9 (j4 (o9 zcG (F9 zao (o9 ztt zu5)))) zaW) (d9 (u6 1 (d9 (j4 (o9 zcG (F9 zao (o9 ztf zeo)))) (d9 zcD (u6 2 (H6 LA))))) zba)
def f106:SFn:=⟨false,[some 0],19,[.cell 18 (some 2)],d9 (j4 (rcL ztl zvt (rcL (bR [Z,Z]) zcS u7))) (d9 (j4 (rcL (bR [Z,Z]) zaV u7)) (d9 (j4 (F9 zcl (G8 (D8 105 [oL0]) zbq))) (d9 (d9 zcP (u6 0 (H6 LB))) (d9 (d9 zhR (u6 4 (H6 Lx))) (d9 (j4 (F9 zr8 (G8 zqJ u7))) F8))))),none⟩
theorem agn:J6 Tryz.prog 106 f106:=A9 (slots:=[0,1,5,20,7,4,31,6,41,49,3,8,9,125,10,12,11,13,2]) (pure:=false) (rc:=false) (by kernel_rfl)
def f107:SFn:=⟨false,[some 0,some 1,some 2],4,[.tmp 3],zeg,none⟩
theorem agp:J6 Tryz.prog 107 f107:=A9 (slots:=[0,1,2,6]) (pure:=false) (rc:=false) (by kernel_rfl)
def f109:SFn:=⟨false,[some 2,some 0],5,[.tmp 4],d9 zlX (d9 zfl (d9 (d9 zhe (d9 zlQ (C9 zam (j4 (o9 za4 (o9 za4 (o9 (Ua oL0) (R9 (lSl 32 oL2 none (some oL0)) (G8 (Et 32 zab 304 oL0 zay) (o9 za4 (o9 ztt (R9 (lSl 32 oL2 none (some oL0)) zaM))))))))) D6))) zjf)),none⟩
theorem agq:J6 Tryz.prog 109 f109:=A9 (slots:=[1,6,0,16,4]) (pure:=false) (rc:=false) (by kernel_rfl)
def f110:SFn:=⟨false,[some 0],3,[.tmp 2],d9 ztI (d9 zbH (d9 (j4 (R9 za5 (G8 zpC zaM))) F8)),none⟩
theorem agr:J6 Tryz.prog 110 f110:=A9 (slots:=[0,4,2]) (pure:=false) (rc:=false) (by kernel_rfl)
def f111:SFn:=⟨false,[some 0,some 1],2,[],j4 (o9 zt7 (G8 (D8 177 [zay,oL0,zai]) u7)),none⟩
theorem ags:J6 Tryz.prog 111 f111:=A9 (slots:=[0,1]) (pure:=false) (rc:=false) (by kernel_rfl)
def f112:SFn:=⟨false,[some 0,some 1],5,[.tmp 4],d9 zdx (d9 (I9 0 (dcR zlC 0 sNo (dcE zi8 sNo (dcR zfw 1 sNo (dcE zi8 sNo (dcE (D8 113 [oL2,oL0]) sNo zhN)))))) F8),none⟩
theorem agt:J6 Tryz.prog 112 f112:=A9 (slots:=[0,1,2,3,4]) (pure:=false) (rc:=false) (by kernel_rfl)
def f113:SFn:=⟨false,[some 0,some 1],5,[.tmp 4],d9 zdx (d9 (I9 1 (dcP ztC sNo (dcR zao 0 sNo (dcP zdn sNo (dcR zao 0 sNo (dcE zu8 sNo (dcP ztR sNo (dcR zao 1 sNo (dcP zcO sNo (dcR zao 1 sNo (dcE zu8 sNo (dcL (I6 1 2 [zaa] [(0,1,zvs),(1,1,oL0)]) 0 sNo (dcE (D8 83 [oL0]) sNo zhN))))))))))))) F8),none⟩
theorem agu:J6 Tryz.prog 113 f113:=A9 (slots:=[0,1,2,3,4]) (pure:=false) (rc:=false) (by kernel_rfl)
def zm:SC:=d9 (d9 (j4 (o9 (lV zaC) (rcP (pIb iLt sLt zat oL0) zaE u7))) (C9 zaB D6 zvB)) (d9 (u6 3 (d9 (I9 0 (dcP zaF sNo (dcP zcI sNo (dcP zaU sNo (dcP zdX sNo (dcR zts 0 sNo (dcP zcI sNo (dcP zaU sNo (dcP zaw sNo (dcP zt6 sNo (dcR zts 0 sNo (dcE zvE sNo zrv)))))))))))) (C9 zaK (d9 (j4 (o9 (J3 32 zaC zat) (F9 zts (o9 ziV ztB)))) zba) D6))) ze0)
def zn:SC:=d9 zcF (d9 (u6 1 (d9 (I9 0 (dcP zaF sNo (dcP ztp sNo (dcP za4 sNo (dcP zdX sNo (dcR zts 0 sNo (dcP ztp sNo (dcP za4 sNo (dcP zaw sNo (dcP zt6 sNo (dcR zts 0 sNo (dcE zvE zaz M0)))))))))))) (C9 zap (d9 (j4 (R9 zqh zc0)) (d9 (d9 ziw (u6 2 (H6 zm))) (d9 (j4 (R9 zqh (G8 (om zab oL0) u7))) (d9 (j4 (R9 (lSl 32 zay none (some zal)) zcs)) F8)))) D6))) zba)
def f114:SFn:=⟨false,[some 0,some 4],11,[.tmp 10],d9 zlc (d9 (d9 zuE (C9 zai znQ D6)) (d9 (d9 zgz (u6 0 (H6 zn))) znQ)),none⟩
theorem agv:J6 Tryz.prog 114 f114:=A9 (slots:=[0,10,5,15,1,28,7,6,35,49,4]) (pure:=false) (rc:=false) (by kernel_rfl)
def f115:SFn:=⟨false,[some 0,some 1],5,[.tmp 4],d9 zfJ (d9 (I9 0 (dcR zlC 0 sNo (dcE zi8 sNo (dcR zfw 1 sNo (dcE zi8 sNo (dcP zup sNo zhN)))))) F8),none⟩
theorem agw:J6 Tryz.prog 115 f115:=A9 (slots:=[0,1,2,3,4]) (pure:=false) (rc:=false) (by kernel_rfl)
def f116:SFn:=⟨false,[some 0,some 1,some 2],8,[.tmp 7],d9 (j4 (rcL ztl zaq (rcL zb7 zaz zbn))) (d9 (d9 (j4 (o9 zg0 (o9 znH (o9 (gP oL1 false (pIb iGt sGt oL0 zt3)) (rcP zfT zan u7))))) (C9 zam zg8 D6)) (d9 (d9 (j4 (o9 zgc (o9 zlN (F9 zao (o9 (dD (.func 179) [] [zap]) (G8 (D8 178 [oL1,oL0]) zsj)))))) (C9 zat zlL D6)) zfa)),none⟩
theorem agx:J6 Tryz.prog 116 f116:=A9 (slots:=[0,1,2,12,3,4,18,6]) (pure:=false) (rc:=false) (by kernel_rfl)
def f117:SFn:=⟨true,[some 0],3,[.tmp 2],d9 (j4 (rcL ztl zvt (rcP zbu zty u7))) (d9 (j4 (F9 zdk (G8 (D8 181 [oL0]) (o9 (dD (.func 182) [] [zai]) (G8 (D8 180 [oL1,oL0]) zaM))))) F8),none⟩
theorem bD:J6 Tryz.prog 117 f117:=A9 (slots:=[0,1,2]) (pure:=true) (rc:=false) (by kernel_rfl)
def Wj:SC:=d9 (d9 (j4 (rcP (pIb iGe sGe zal zac) zan u7)) zaW) (d9 (u6 1 (d9 (j4 (o9 (J3 1 zak zal) (F9 zao (G8 (D8 184 [oL0,zap]) zbs)))) (d9 (j4 (o9 (pIb iGe sGe zat zac) (o9 znl (F9 ztm (o9 (gP oL2 true za4) (o9 zun (o9 zlZ (F9 zgL (o9 (gP ztK true zcI) (o9 (gP ztN true znE) (rcP zkR zaE u7))))))))))) (C9 zaB (j4 (o9 zhf (F9 zao (o9 (J3 2 oL0 zal) (o9 zc9 (F9 zao (o9 (J3 1 oL0 zat) (F9 zao zbq)))))))) D6)))) (j4 (o9 za4 zlM)))
def f118:SFn:=⟨false,[some 0,some 4,some 5,some 7],10,[.tmp 9],d9 zkl (d9 (d9 (j4 (o9 zhf (F9 zao (o9 ztt zlM)))) (u6 0 (H6 Wj))) (d9 (j4 (rcP ztx zaG u7)) F8)),none⟩
theorem agy:J6 Tryz.prog 118 f118:=A9 (slots:=[0,4,9,16,1,2,10,3,36,8]) (pure:=false) (rc:=false) (by kernel_rfl)
def f119:SFn:=⟨false,[some 0,some 1],16,[.cell 8 (some 2),.tmp 15],d9 (j4 (rcL ztl zty (rcL zb7 zan (rcL zaJ zaE zeG)))) (d9 (d9 (j4 (F9 zfk (F9 zd5 (G8 zpi ziA)))) (d9 zdI (C9 zap (d9 (j4 (F9 zfk (F9 zd5 (G8 (D8 186 [oL1,oL0]) (o9 zbS (o9 zb0 (rcL zby zaG (G8 znw zsk)))))))) (d9 (d9 zcR (C9 zaC (d9 (j4 (o9 zdp (G8 zky (rcP zaU zbD u7)))) F8) D6)) (j4 (F9 (K9 7 zaK) (G8 (K3 7 zal oL0) u7))))) D6))) (d9 (j4 (F9 zfk (F9 zd5 (G8 zpi (o9 zbS (o9 zb0 znn)))))) (d9 (j4 (F9 zfk (G8 ztg (o9 zbS (o9 zb0 (o9 (pExt oL2 2) (rcL zgb zaV zsR))))))) (d9 (j4 (F9 zr8 (G8 (D8 188 [oL0]) (o9 zbS (o9 zb0 (rcP zb4 zbz (rcP zb4 za8 u7))))))) (d9 (d9 (j4 (rcP (pIb iNe sNe za2 zac) za6 u7)) (C9 za3 (d9 (j4 (o9 zdp (G8 zky (rcP zb3 zbD u7)))) F8) D6)) (d9 (j4 (o9 (J3 2 zbt zbB) (F9 ztk (G8 zky zeG)))) F8)))))),none⟩
theorem agz:J6 Tryz.prog 119 f119:=A9 (slots:=[0,1,2,3,7,24,9,32,4,8,12,16,54,15,10,5]) (pure:=false) (rc:=false) (by kernel_rfl)
def Wl:SC:=d9 (j4 (rcP (pIb iLt sLt zc7 zcH) zds u7)) (d9 (C9 zdv D6 zqs) (d9 (u6 7 (d9 (j4 (o9 (J3 2 zdA zc7) (F9 ztk (rcL zaJ zga zdb)))) (I9 1 (dcR zem 0 sNo (dcR zk0 0 sNo (dcP (H8 0 zfQ) sNo (dcR zao 0 sNo (dcP zrg sNo (dcR zao 0 sNo (dcE zsl sNo (dcP zr9 sNo (dcR zao 1 sNo (dcP zrg sNo (dcR zao 1 sNo (dcP zfn sNo (dcL zbK 0 sNo (dcE zuW sNo (dcP zr9 sNo zt1)))))))))))))))))) (j4 (o9 (pIb bG bI zc7 zae) zqK))))
def Wm:SC:=d9 (j4 (rcP (pIb iLt sLt zbw zbO) zcS u7)) (d9 (C9 zbx D6 zuK) (d9 (u6 5 (d9 (j4 (o9 (J3 8 zbr zbw) (F9 ztr (rcL zaL zda zcV)))) (d9 (I9 0 (dcP zgI sNo (dcP zrh sNo (dcR zao 0 sNo (dcP zna sNo (dcR zao 0 sNo (dcE znB sNo (dcP zgI sNo (dcP zri sNo (dcR zao 1 sNo (dcP zna sNo (dcR zao 1 sNo (dcE znB sNo (dcP zrh sNo (dcE zoG sNo (dcP zri sNo zh3)))))))))))))))) (j4 (o9 zsa (F9 zao (F9 (K9 8 zbE) (R9 zbg (G8 zou (o9 zsa zcB)))))))))) (j4 (o9 (pIb bG bI zbw zae) zea))))
def Wn:SC:=d9 zeA (d9 zgT (d9 (u6 3 (d9 (j4 (o9 (J3 4 zbB za2) (F9 zh0 (rcL zbc zbD zmB)))) (d9 (j4 (F9 zem (F9 zk0 (o9 znc (F9 zao (o9 zkg (o9 zct (F9 zao (G8 (D8 118 [ztK,zvs,oL3,oL0]) (o9 znc zcB)))))))))) (j4 (o9 zsb (F9 zao (F9 (K9 4 zbl) (R9 ziL (G8 (dG 4 32 oL2 oL0) (o9 zsb zcB)))))))))) zdP))
def Wo:SC:=d9 zdu (d9 zeM (d9 (u6 1 (d9 zgh (I9 1 (dcR zem 0 sNo (dcR zk0 0 sNo (dcP zdf sNo (dcR zao 0 sNo (dcP zjn sNo (dcR zao 0 sNo (dcE zsl sNo (dcP zsc sNo (dcR zao 1 sNo (dcP zjn sNo (dcR zao 1 sNo (dcP zfn sNo (dcL zbK 0 sNo (dcE zuW sNo (dcP zsc sNo zt1)))))))))))))))))) zcx))
def f120:SFn:=⟨true,[some 0,some 1],28,[.cell 27 (some 7)],d9 (j4 (rcL ztl zty (rcL zb7 zaq (rcL zby zks u7)))) (d9 (j4 (o9 ztC (F9 znv (rcL zby zan zsS)))) (d9 (I9 1 (dcP zfb sNo (dcR zao 0 sNo (dcE (D8 189 [oL0]) sNo (dcP zdn sNo (dcR ztk 1 sNo (dcP (J9 zbm [(0,2,oL0),(2,1,oL2)]) sNo (dcL zby 0 zaV (dcE zsH sNo M0))))))))) (d9 (j4 (o9 (dD (.func 190) [] [zal,zak]) zgt)) (d9 (d9 (j4 (o9 zfc zjb)) (u6 0 (H6 Wo))) (d9 (d9 (j4 (o9 zfD zeX)) (u6 2 (H6 Wn))) (d9 (d9 (j4 (o9 zhx (rcR zao zcC (rcP ztt zb6 zf2)))) (u6 4 (H6 Wm))) (d9 (d9 (j4 (o9 zgW (rcR zao zb8 (rcP ztt zdB zie)))) (u6 6 (H6 Wl))) (d9 (j4 (F9 zr3 (G8 (K3 7 zc8 oL0) u7))) F8)))))))),none⟩
theorem ah:J6 Tryz.prog 120 f120:=A9 (slots:=[0,1,2,5,3,28,27,29,26,9,6,51,50,52,49,11,74,73,75,72,7,13,102,101,103,100,15,4]) (pure:=true) (rc:=false) (by kernel_rfl)
def f121:SFn:=⟨false,[some 0],4,[.tmp 2,.tmp 3],d9 (j4 (rcL ztl zvt (rcP zbu zty zcT))) (d9 (j4 (F9 zdk (G8 (D8 181 [oL0]) (o9 (dD (.func 193) [] [zai]) (G8 (D8 192 [oL1,oL0]) (o9 zbS (o9 zb0 zoP))))))) F8),none⟩
theorem agA:J6 Tryz.prog 121 f121:=A9 (slots:=[0,1,2,3]) (pure:=false) (rc:=false) (by kernel_rfl)
def Wp:SC:=d9 zgK (d9 zir (d9 (u6 3 (d9 zi2 (j4 (o9 ztY (G8 (dG 1 8 oL0 zbt) zck))))) zfq))
def Wq:SC:=zbU
def f122:SFn:=⟨false,[some 0],15,[.tmp 14],d9 zpz (d9 zeJ (d9 (d9 zbj (u6 0 (H6 Wq))) (d9 (j4 (G8 (D8 194 [zvG,zap]) zck)) (d9 (d9 zhS (u6 2 (H6 Wp))) zmH)))),none⟩
theorem agB:J6 Tryz.prog 122 f122:=A9 (slots:=[0,11,10,12,9,3,5,20,27,26,28,25,6,8,2]) (pure:=false) (rc:=false) (by kernel_rfl)
def f123:SFn:=⟨false,[some 0,some 1],5,[.cell 4 (some 8)],d9 zg9 (d9 (j4 (F9 zem (o9 (dD (.func 196) [] [zam]) (G8 (D8 195 [oL1,oL0]) zp9)))) F8),none⟩
theorem agC:J6 Tryz.prog 123 f123:=A9 (slots:=[0,1,2,3,4]) (pure:=false) (rc:=false) (by kernel_rfl)
def f124:SFn:=⟨true,[some 0],6,[.tmp 4,.tmp 5],d9 (j4 (rcL ztl zvt zgH)) (d9 (d9 ze3 (d9 zbd (C9 zam (d9 (j4 (rcP zbu zaq (rcP za4 zaz u7))) F8) D6))) (d9 (j4 (F9 zdk (G8 (D8 117 [oL0]) zeU))) F8)),none⟩
theorem bM:J6 Tryz.prog 124 f124:=A9 (slots:=[0,1,4,8,2,3]) (pure:=true) (rc:=false) (by kernel_rfl)
def f125:SFn:=⟨true,[some 0,some 2,some 5,some 6],11,[.tmp 9,.tmp 10],d9 (j4 (rcL ztl zvt ziT)) (d9 (d9 zj8 zeI) (d9 (d9 (j4 (F9 zdk (G8 (D8 116 [oL0,zap,zat]) zc0))) (d9 zkk (C9 zaB (d9 (j4 (rcP zaf zaG (rcP zcI zaV u7))) F8) D6))) (d9 (j4 (F9 zdk (G8 (D8 118 [oL0,zal,zap,zat]) (rcP zau zaG zcK)))) F8))),none⟩
theorem bN:J6 Tryz.prog 125 f125:=A9 (slots:=[0,4,1,10,16,2,3,11,23,8,9]) (pure:=true) (rc:=false) (by kernel_rfl)
def f126:SFn:=⟨true,[some 0,some 2],7,[.cell 5 (some 7),.tmp 6],d9 (j4 (rcL ztl zvt (rcL zby zaz zbN))) (d9 (d9 zj8 (d9 zdH (C9 zak (d9 (j4 (o9 zh4 (G8 zsm zip))) F8) D6))) (d9 (j4 (F9 zdk (G8 zsT (G8 zsm zbN)))) F8)),none⟩
theorem bE:J6 Tryz.prog 126 f126:=A9 (slots:=[0,2,1,6,11,4,5]) (pure:=true) (rc:=false) (by kernel_rfl)
def f127:SFn:=⟨true,[some 0,some 1,some 2],12,[.tmp 10,.tmp 11],d9 (j4 (rcL ztl zan (rcL zb7 zaq (rcL zrz zaD (rcP zaf zaV zd6))))) (d9 (j4 (F9 ziZ (F9 zi0 (R9 zbK (G8 (D8 199 [oL2,oL0]) (o9 zbS (o9 zb0 (rcP zb4 zaG zf6)))))))) (d9 (d9 zev (C9 zat (d9 (j4 (rcP zaf zaV zo3)) F8) D6)) (d9 (d9 zg7 (C9 zaB (d9 (j4 (rcP zaf zaV (rcP zaX za8 u7))) F8) D6)) (d9 (I9 0 (dcP zcr sNo (dcR zi0 0 sNo (dcE (D8 201 [oL1,oL0]) sNo (dcR znW 1 sNo (dcE (D8 200 [oL1,oL0]) sNo (dcP zau zaV (dcP zaf za8 M0)))))))) F8)))),none⟩
theorem bO:J6 Tryz.prog 127 f127:=A9 (slots:=[0,1,2,3,4,9,18,5,24,8,6,7]) (pure:=true) (rc:=false) (by kernel_rfl)
def f128:SFn:=⟨false,[some 0],3,[.tmp 2],d9 ztI (d9 zbH (d9 (j4 (R9 (I6 8 0 zar []) (G8 (dG 8 96 oL0 zay) zaM))) F8)),none⟩
theorem agD:J6 Tryz.prog 128 f128:=A9 (slots:=[0,4,2]) (pure:=false) (rc:=false) (by kernel_rfl)
def f129:SFn:=⟨true,[some 0,some 1],17,[.cell 6 (some 2),.tmp 16],d9 (j4 (rcL ztl zan (rcL zb7 zty (rcL zaJ zaN zf2)))) (d9 (j4 (o9 zfE zhc)) (d9 (j4 (F9 ziZ (F9 zem (G8 (D8 202 [oL1,oL0]) (o9 zbS (o9 zb0 (rcL zby zaD (G8 znw (rcP zt8 zaq u7))))))))) (d9 (d9 zdI (C9 zap zdJ D6)) (d9 (j4 (F9 (K9 7 zaC) (G8 (D8 203 [oL0]) zb2))) (d9 (j4 (o9 (cu zaB) (o9 zpt (F9 ztk (rcL zgb zaG zdb))))) (d9 (j4 (o9 zjn (F9 zao (o9 zjn (F9 zao (o9 ztt (o9 zgi (R9 (lSl 3 ztu none (some oL0)) (o9 zjn zcB))))))))) (d9 (I9 0 (dcP zeQ sNo (dcR zao 0 sNo (dcP zd3 sNo (dcR zao 0 sNo (dcE zjN sNo (dcP zbf sNo (dcP ztR sNo (dcR zao 1 sNo (dcE zoa sNo (dcP zd3 sNo (dcR zao 2 sNo (dcP zeQ sNo (dcR zao 2 sNo (dcE zjN sNo (dcP zbf sNo (dcP ztR sNo (dcR zao 3 sNo (dcE zoa sNo (dcP (bg zvu) za8 zrA)))))))))))))))))))) (d9 (j4 (F9 zlr (G8 (D8 206 [oL0,zaR,za2]) (o9 zbS (o9 zb0 (rcP zb4 zbD zhM)))))) (d9 (d9 (j4 (rcP zdG za6 u7)) (C9 za3 zdJ D6)) (d9 (j4 (F9 zlr (G8 (D8 206 [oL0,za2,zaR]) (o9 zbS (o9 zb0 (rcP zb4 zbF zhM)))))) (d9 (d9 (j4 (rcP zdG zbz u7)) (C9 zbt zdJ D6)) (d9 (j4 (F9 ziZ (F9 zem (o9 (TY zbB) (o9 (J9 [zaa,zaa] [(0,1,oL0),(1,1,zbl)]) (G8 (D8 207 [oL3,oL2,oL0]) (o9 zbS (o9 zb0 (G8 zsn zjE))))))))) F8)))))))))))),none⟩
theorem Ws:J6 Tryz.prog 129 f129:=A9 (slots:=[0,1,3,2,7,22,4,6,8,9,11,10,65,76,13,12,5]) (pure:=true) (rc:=false) (by kernel_rfl)
def zo:SC:=zcw
def f130:SFn:=⟨false,[some 0,some 4],8,[.tmp 7],d9 zbI (d9 (d9 zc6 (u6 0 (H6 zo))) zdj),none⟩
theorem agE:J6 Tryz.prog 130 f130:=A9 (slots:=[0,8,7,9,1,5,16,4]) (pure:=false) (rc:=false) (by kernel_rfl)
def f131:SFn:=⟨true,[some 0,some 1],5,[.tmp 4],d9 zhb (d9 (I9 0 (dcP ztp sNo (dcP zef sNo (dcP zct sNo (dcR ztr 0 sNo (dcP zaZ sNo (dcE (D8 60 [oL1,oL0]) sNo (dcP ztp sNo (dcP zef sNo (dcP zpt sNo (dcR zao 1 sNo (dcP ztp sNo (dcP zef sNo (dcP (H8 9 oL0) sNo (dcR zao 1 sNo (dcP ztp sNo (dcP zef sNo (dcP zrU sNo (dcR ztk 1 sNo (dcE (D8 59 [zvz,zuc,ztu,oL0]) sNo (dcP zau sNo (dcP zbS sNo (dcP zb0 sNo (dcP zb4 zan (dcP zb4 zty M0))))))))))))))))))))))))) (d9 (j4 (o9 zjC (o9 znH (o9 (gP oL1 false zbR) (o9 zkG (o9 (gP oL0 true ztE) (o9 (gP oL1 true (pIb iNe sNe oL0 zca)) (o9 zqE (o9 zkL ztq))))))))) F8)),none⟩
theorem bY:J6 Tryz.prog 131 f131:=A9 (slots:=[0,1,6,5,4]) (pure:=true) (rc:=false) (by kernel_rfl)
def Wt:SC:=d9 zaS (d9 zaW (d9 (u6 1 (d9 ztW (j4 (o9 ztx (G8 (D8 208 [zat]) (o9 (pIb bG bI (O5 (o8.str [32])) oL0) (o9 zhh zbq))))))) zaP))
def f132:SFn:=⟨false,[some 5,some 0],8,[.tmp 7],d9 (j4 (rcP zg5 zaD u7)) (d9 (d9 zbj (u6 0 (H6 Wt))) zuj),none⟩
theorem agF:J6 Tryz.prog 132 f132:=A9 (slots:=[1,9,8,10,7,0,6,4]) (pure:=false) (rc:=false) (by kernel_rfl)
def f133:SFn:=⟨false,[],1,[.tmp 0],d9 zp7 (d9 (j4 (R9 jw (o9 (J9 [o8.nilFunc,o8.nilFunc] [(0,1,O5 (.func (.func 209) [] [])),(1,1,O5 (.func (.func 210) [] []))]) (G8 zoE (o9 (J9 [o8.nilFunc,o8.nilFunc] [(0,1,O5 (.func (.func 213) [] [])),(1,1,O5 (.func (.func 214) [] []))]) (G8 zoF (o9 (J9 [o8.nilFunc,o8.nilFunc] [(0,1,O5 (.func (.func 216) [] [])),(1,1,O5 (.func (.func 217) [] []))]) (G8 zn7 (o9 (J9 [o8.nilFunc,o8.nilFunc] [(0,1,O5 (.func (.func 218) [] [])),(1,1,O5 (.func (.func 219) [] []))]) (G8 zn8 (o9 (J9 [o8.nilFunc,o8.nilFunc] [(0,1,O5 (.func (.func 220) [] [])),(1,1,O5 (.func (.func 221) [] []))]) (G8 zn9 (o9 (J9 [o8.nilFunc,o8.nilFunc] [(0,1,O5 (.func (.func 223) [] [])),(1,1,O5 (.func (.func 224) [] []))]) (G8 znX (o9 (J9 [o8.nilFunc,o8.nilFunc] [(0,1,O5 (.func (.func 225) [] [])),(1,1,O5 (.func (.func 226) [] []))]) zkU))))))))))))))) F8),none⟩
theorem agG:J6 Tryz.prog 133 f133:=A9 (slots:=[0]) (pure:=false) (rc:=false) (by kernel_rfl)
def Wu:SC:=d9 zaS (d9 zaW (d9 (u6 1 (d9 zcg (j4 (o9 zaF (o9 (pIb vY O6 (O5 (o8.int .i64 (Int.ofNat 31))) oL0) (o9 (Cx zay zap) (o9 zov (o9 zhh (o9 zax (o9 (pIb zQ O6 oL0 zjJ) ztq)))))))))) zaP))
def f134:SFn:=⟨false,[some 0],7,[.tmp 6],d9 zdW (d9 zcD (d9 (d9 (j4 (rcP (Cy zay) zty za7)) (u6 0 (H6 Wu))) (d9 zoM F8))),none⟩
theorem agH:J6 Tryz.prog 134 f134:=A9 (slots:=[0,7,6,8,3,4,2]) (pure:=false) (rc:=false) (by kernel_rfl)
def f135:SFn:=⟨false,[some 0],3,[.tmp 2],d9 zcc (d9 (j4 (o9 zhQ (F9 ztk (G8 (D8 136 [oL0,zac,O5 (o8.int .i64 (Int.ofNat 1000000))]) zaM)))) F8),none⟩
theorem agI:J6 Tryz.prog 135 f135:=A9 (slots:=[0,1,2]) (pure:=false) (rc:=false) (by kernel_rfl)
def f136:SFn:=⟨false,[some 0,some 1,some 3],5,[.tmp 4],zaT,none⟩
theorem agJ:J6 Tryz.prog 136 f136:=A9 (slots:=[0,1,3,2,6]) (pure:=false) (rc:=false) (by kernel_rfl)
def f137:SFn:=⟨false,[some 1,some 0],3,[],d9 zfC (j4 (o9 zfE (F9 ztk (o9 ziQ (o9 zsr ziW))))),none⟩
theorem agK:J6 Tryz.prog 137 f137:=A9 (slots:=[1,0,3]) (pure:=false) (rc:=false) (by kernel_rfl)
def f138:SFn:=⟨false,[some 0],3,[.tmp 2],d9 zcc (d9 (j4 (o9 zfi (F9 ztr (R9 zc3 (o9 zmj (G8 zuQ (o9 zbR zaM))))))) F8),none⟩
theorem agL:J6 Tryz.prog 138 f138:=A9 (slots:=[0,1,2]) (pure:=false) (rc:=false) (by kernel_rfl)
def f139:SFn:=⟨false,[some 1,some 0],3,[],d9 zfC (j4 (o9 zi9 (F9 ztr (o9 ziQ (o9 (H8 6 oL0) zsU))))),none⟩
theorem agM:J6 Tryz.prog 139 f139:=A9 (slots:=[1,0,3]) (pure:=false) (rc:=false) (by kernel_rfl)
def f140:SFn:=⟨false,[some 0],3,[.tmp 2],d9 zcc (d9 (j4 (o9 zlE (o9 zct (F9 zao (G8 (D8 141 [oL0]) (o9 zra (o9 zgQ (F9 zdM (G8 (gE oL3 true zl7) zjo))))))))) F8),none⟩
theorem agN:J6 Tryz.prog 140 f140:=A9 (slots:=[0,1,2]) (pure:=false) (rc:=false) (by kernel_rfl)
def f141:SFn:=⟨false,[some 0],2,[.tmp 1],d9 zeY (d9 (j4 (G8 (D8 66 [zay,zae,ztV]) zto)) F8),none⟩
theorem agO:J6 Tryz.prog 141 f141:=A9 (slots:=[0,2]) (pure:=false) (rc:=false) (by kernel_rfl)
def f142:SFn:=⟨false,[some 1,some 0],3,[],d9 zfC (j4 (o9 zpT (F9 ztk (o9 ziQ (o9 znJ ziW))))),none⟩
theorem agP:J6 Tryz.prog 142 f142:=A9 (slots:=[1,0,3]) (pure:=false) (rc:=false) (by kernel_rfl)
def f143:SFn:=⟨false,[some 0],3,[.tmp 2],d9 zcc (d9 (j4 (o9 ziO (o9 zct (F9 zao (G8 (D8 141 [oL0]) (o9 zkd (o9 zgQ (F9 (gRd oL2 true ztk) (G8 (gE oL3 true (D8 136 [oL0,zac,zt3])) (o9 ztv (o9 zkd (o9 zpD (F9 zdM (G8 (gE oL3 true (D8 66 [oL0,zac,O5 (o8.int .i64 (Int.ofNat 1048576))])) zjo)))))))))))))) F8),none⟩
theorem agQ:J6 Tryz.prog 143 f143:=A9 (slots:=[0,1,2]) (pure:=false) (rc:=false) (by kernel_rfl)
def f144:SFn:=⟨false,[some 1,some 0],3,[],d9 zfC (j4 (o9 zpU (F9 zh0 (o9 ziQ (o9 (H8 16 oL0) zsV))))),none⟩
theorem agR:J6 Tryz.prog 144 f144:=A9 (slots:=[1,0,3]) (pure:=false) (rc:=false) (by kernel_rfl)
def f145:SFn:=⟨false,[some 0],3,[.tmp 2],d9 zcc (d9 (j4 (o9 zg2 (F9 ztr (G8 (D8 146 [oL0]) zaM)))) F8),none⟩
theorem agS:J6 Tryz.prog 145 f145:=A9 (slots:=[0,1,2]) (pure:=false) (rc:=false) (by kernel_rfl)
def f146:SFn:=⟨false,[some 0],3,[.tmp 2],d9 zcc (d9 (j4 (o9 zbG (F9 zao (o9 zbR (o9 ziv (F9 ztm (G8 (gE oL2 true zl7) (o9 zce (o9 (gP oL0 true zhQ) (F9 ztm (G8 (gE oL2 true (D8 66 [oL0,O5 (o8.int .i64 (Int.negSucc 1125899906842623)),zuS])) (o9 zce (o9 zno (F9 ztm (G8 (gE oL2 true (D8 66 [oL0,zac,zhs])) (o9 zce (o9 (gP oL0 true zfi) (F9 ze7 (G8 (gE oL2 true (D8 136 [oL0,O5 (o8.int .i64 (Int.negSucc 9999)),O5 (o8.int .i64 (Int.ofNat 10000))])) (o9 zce (o9 zkw (F9 ztm (G8 zsW (o9 zce (o9 znk (F9 ztm (G8 zsW (o9 zce zaM)))))))))))))))))))))))))))) F8),none⟩
theorem agT:J6 Tryz.prog 146 f146:=A9 (slots:=[0,1,2]) (pure:=false) (rc:=false) (by kernel_rfl)
def f147:SFn:=⟨false,[some 1,some 0],3,[],d9 zfC (j4 (o9 zpW (F9 ztr (o9 ziQ (o9 (H8 20 oL0) zsU))))),none⟩
theorem agU:J6 Tryz.prog 147 f147:=A9 (slots:=[1,0,3]) (pure:=false) (rc:=false) (by kernel_rfl)
def f148:SFn:=⟨false,[some 0],3,[.tmp 2],d9 zcc (d9 (j4 (o9 zhz (F9 ztk (G8 (D8 149 [oL0]) zaM)))) F8),none⟩
theorem agV:J6 Tryz.prog 148 f148:=A9 (slots:=[0,1,2]) (pure:=false) (rc:=false) (by kernel_rfl)
def ni:SC:=d9 zcJ (d9 zcU (d9 (u6 1 (d9 (j4 (o9 zqi (F9 zao (rcP za4 zaD zf7)))) (d9 (j4 (G8 (D8 141 [zat]) (o9 ztz (o9 zqb (o9 zgN (o9 zkG (o9 zkb (o9 (gP oL1 true zcA) (F9 zdM (o9 (gP oL3 true zcI) (o9 ziu (o9 (gP zvs true zgj) (F9 zoO (o9 (gP ztN true zp8) (o9 (gP zvC false zkR) (rcP zsP zaE u7)))))))))))))))) (C9 zaB zjj D6)))) zbA))
def f149:SFn:=⟨false,[some 0],10,[.tmp 9],d9 (j4 (rcL ztl zvt zeH)) (d9 (d9 zhw (u6 0 (H6 ni))) (d9 (j4 (o9 zbG (F9 zao (G8 (D8 66 [oL0,zac,O5 (o8.int .i64 (Int.ofNat 19999))]) (o9 ziv (F9 ztm (o9 (gP oL2 true ztt) (G8 (gE oL3 true (D8 66 [oL0,zaH,zbo])) (o9 ztv zbX))))))))) F8)),none⟩
theorem agW:J6 Tryz.prog 149 f149:=A9 (slots:=[0,1,8,7,9,6,4,3,29,2]) (pure:=false) (rc:=false) (by kernel_rfl)
def f150:SFn:=⟨false,[some 1,some 0],3,[],d9 zfC (j4 (o9 zlD (F9 ztk (o9 ziQ (o9 (H8 28 oL0) ziW))))),none⟩
theorem agX:J6 Tryz.prog 150 f150:=A9 (slots:=[1,0,3]) (pure:=false) (rc:=false) (by kernel_rfl)
def f151:SFn:=⟨false,[some 0],3,[.tmp 2],d9 zcc (d9 (I9 0 (dcP zgq sNo (dcP zct sNo (dcR zao 0 sNo (dcE zmt sNo (dcP zau sNo (dcP zm7 sNo (dcP zgQ sNo (dcR zdM 0 sNo (dcE (gE oL3 true zmm) sNo (dcP ztv sNo (dcP zau sNo (dcR zqZ 0 sNo (dcE ztc sNo (dcP (gP oL2 true zgq) sNo (dcR zgC 1 sNo (dcP (gP ztu true (pNe (R4 [.i,.i]) oL0 oL2)) sNo (dcP ztj sNo zmN)))))))))))))))))) F8),none⟩
theorem agY:J6 Tryz.prog 151 f151:=A9 (slots:=[0,1,2]) (pure:=false) (rc:=false) (by kernel_rfl)
def f152:SFn:=⟨false,[some 1,some 0],3,[],d9 zfC (j4 (o9 zpV (F9 ztk (o9 ziQ (o9 (H8 30 oL0) ziW))))),none⟩
theorem agZ:J6 Tryz.prog 152 f152:=A9 (slots:=[1,0,3]) (pure:=false) (rc:=false) (by kernel_rfl)
def f153:SFn:=⟨false,[some 0],3,[.tmp 2],d9 ztI (d9 zbH (d9 (j4 (R9 (I6 1 0 [zaa] []) (G8 (dG 1 8 oL0 zay) zaM))) F8)),none⟩
theorem ah0:J6 Tryz.prog 153 f153:=A9 (slots:=[0,4,2]) (pure:=false) (rc:=false) (by kernel_rfl)
def Wv:SC:=u6 1 (d9 zft (d9 (d9 zeO (C9 zam (d9 (j4 (G8 (D8 228 [zak,zai,zay,zap]) u7)) F8) D6)) (d9 (d9 zgm (C9 zaC (d9 (j4 (G8 (D8 229 [zak,zai,zay,zap]) u7)) F8) D6)) (d9 (d9 zja (C9 zaK (d9 (j4 (G8 (D8 230 [zak,zai,zay,zap]) u7)) zeZ) D6)) (d9 (j4 (G8 (D8 231 [zak,zai,zay,zap]) zf3)) (d9 (d9 zf5 (C9 za2 (d9 (j4 (G8 (D8 232 [zak,zai,zay,zap]) u7)) zco) D6)) (d9 (d9 zcp (C9 zbB (d9 (j4 (rcE (D8 233 [zak,zai,zay,zap]) zbD u7)) zls) D6)) (d9 (d9 (I9 0 (dcP zaZ sNo (dcP ztP sNo (dcP zau sNo (dcP ztL sNo (dcP zvo sNo (dcP zuZ sNo (dcP zvp sNo (dcP (gP ztu true zuv) sNo (dcR zst 0 sNo (dcP zt4 sNo (dcP (gP ztN true ztY) sNo (dcP (gP zuc true ztZ) sNo (dcR zve 0 sNo ztJ)))))))))))))) (C9 zbw (d9 (j4 (G8 (D8 234 [zak,zai,zay,za3,zap]) zcE)) zhG) D6)) (d9 (j4 (G8 (D8 235 [zak,zai,zay,za3,zap]) zfF)) (d9 ziC (d9 zdr (d9 zfy (d9 zdo (C9 zc7 (d9 zfu (d9 (j4 (G8 (D8 154 [zak,zai,zbr,zat,zap]) u7)) zfA)) (d9 zfv (d9 (j4 (o9 zdg (G8 (D8 154 [zak,oL0,zay,zat,zap]) u7))) zj9))))))))))))))))
def f154:SFn:=⟨false,[some 4,some 1,some 0,some 6,some 5],24,[],d9 zh1 (d9 zfB (u6 0 (H6 Wv))),none⟩
theorem ah1:J6 Tryz.prog 154 f154:=A9 (slots:=[2,1,12,25,0,4,3,32,10,39,14,56,13,11,75,80,97,15,17,16,18,19,125,20]) (pure:=false) (rc:=false) (by kernel_rfl)
def f155:SFn:=⟨false,[some 0],2,[.tmp 1],d9 zd8 (d9 (C9 zvv (d9 (j4 (o9 (jv .u32 zay) (G8 (D8 236 [oL0]) zto))) F8) D6) (d9 (j4 (G8 (D8 237 [zay]) zto)) F8)),none⟩
theorem ah2:J6 Tryz.prog 155 f155:=A9 (slots:=[0,2]) (pure:=false) (rc:=false) (by kernel_rfl)
def f156:SFn:=⟨false,[some 0],2,[.tmp 1],d9 zeY (d9 (j4 (o9 (pIb iNe sNe zay zay) zto)) F8),none⟩
theorem ah3:J6 Tryz.prog 156 f156:=A9 (slots:=[0,2]) (pure:=false) (rc:=false) (by kernel_rfl)
def Ww:SC:=u6 1 (d9 zft (d9 (d9 zeO (C9 zam (d9 (j4 (G8 (D8 238 [zak,zai,zay,zap]) u7)) F8) D6)) (d9 (d9 zgm (C9 zaC (d9 (j4 (G8 (D8 239 [zak,zai,zay,zap]) u7)) F8) D6)) (d9 (d9 zja (C9 zaK (d9 (j4 (G8 (D8 240 [zak,zai,zay,zap]) u7)) zeZ) D6)) (d9 (j4 (G8 (D8 241 [zak,zai,zay,zap]) zf3)) (d9 (d9 zf5 (C9 za2 (d9 (j4 (G8 (D8 242 [zak,zai,zay,zap]) u7)) zco) D6)) (d9 (d9 zcp (C9 zbB (d9 (j4 (rcE (D8 243 [zak,zai,zay,zap]) zbD u7)) zls) D6)) (d9 (d9 zbJ (C9 zbw (d9 (j4 (G8 (D8 244 [zak,zai,zay,za3,zap]) zcE)) zhG) D6)) (d9 (j4 (G8 (D8 245 [zak,zai,zay,za3,zap]) zfF)) (d9 ziC (d9 zdr (d9 zfy (d9 zdo (C9 zc7 (d9 zfu (d9 (j4 (G8 (D8 157 [zak,zai,zbr,zat,zap]) u7)) zfA)) (d9 zfv (d9 (j4 (o9 zdg (G8 (D8 157 [zak,oL0,zay,zat,zap]) u7))) zj9))))))))))))))))
def f157:SFn:=⟨false,[some 4,some 1,some 0,some 6,some 5],24,[],d9 zh1 (d9 zfB (u6 0 (H6 Ww))),none⟩
theorem ah4:J6 Tryz.prog 157 f157:=A9 (slots:=[2,1,12,25,0,4,3,32,10,39,14,56,13,11,75,80,97,15,17,16,18,19,125,20]) (pure:=false) (rc:=false) (by kernel_rfl)
def Wx:SC:=d9 zdz (u6 5 (d9 (j4 (o9 zes (G8 (D8 247 [zak,zap,oL0,zai,zat]) u7))) zci))
def Wy:SC:=d9 zdF (u6 3 (d9 zcZ (d9 (u6 4 (H6 Wx)) (d9 (d9 zeB (d9 zfg (C9 zaR (j4 (G8 (D8 247 [zak,zap,zaK,zal,zat]) u7)) D6))) zd0))))
def Wz:SC:=d9 zdQ (u6 1 (d9 (j4 (G8 (D8 246 [zak,zap,zai,zat]) u7)) zc5))
def f158:SFn:=⟨false,[some 4,some 2,some 6],11,[],d9 zgX (d9 zej (d9 (u6 0 (H6 Wz)) (d9 (j4 (G8 (D8 246 [zak,zap,zal,zat]) u7)) (u6 2 (H6 Wy))))),none⟩
theorem ah5:J6 Tryz.prog 158 f158:=A9 (slots:=[6,8,1,13,0,7,2,30,35,9,54]) (pure:=false) (rc:=false) (by kernel_rfl)
def WA:SC:=d9 zdz (u6 5 (d9 (j4 (o9 zes (G8 (D8 249 [zak,zap,oL0,zai,zat]) u7))) zci))
def WB:SC:=d9 zdF (u6 3 (d9 zcZ (d9 (u6 4 (H6 WA)) (d9 (d9 zeB (d9 zfg (C9 zaR (j4 (G8 (D8 249 [zak,zap,zaK,zal,zat]) u7)) D6))) zd0))))
def WC:SC:=d9 zdQ (u6 1 (d9 (j4 (G8 (D8 248 [zak,zap,zai,zat]) u7)) zc5))
def f159:SFn:=⟨false,[some 4,some 2,some 6],11,[],d9 zgX (d9 zej (d9 (u6 0 (H6 WC)) (d9 (j4 (G8 (D8 248 [zak,zap,zal,zat]) u7)) (u6 2 (H6 WB))))),none⟩
theorem ah6:J6 Tryz.prog 159 f159:=A9 (slots:=[6,8,1,13,0,7,2,30,35,9,54]) (pure:=false) (rc:=false) (by kernel_rfl)
def WE:SC:=u6 1 (d9 zft (d9 (d9 zeO (C9 zam (d9 (j4 (G8 (D8 250 [zak,zai,zay,zap]) u7)) F8) D6)) (d9 (d9 zgm (C9 zaC (d9 (j4 (G8 (D8 251 [zak,zai,zay,zap]) u7)) F8) D6)) (d9 (d9 zja (C9 zaK (d9 (j4 (G8 (D8 252 [zak,zai,zay,zap]) u7)) zeZ) D6)) (d9 (j4 (G8 (D8 253 [zak,zai,zay,zap]) zf3)) (d9 (d9 zf5 (C9 za2 (d9 (j4 (G8 (D8 254 [zak,zai,zay,zap]) u7)) zco) D6)) (d9 (d9 zcp (C9 zbB (d9 (j4 (rcE (D8 255 [zak,zai,zay,zap]) zbD u7)) zls) D6)) (d9 (d9 zbJ (C9 zbw (d9 (j4 (G8 (D8 256 [zak,zai,zay,za3,zap]) zcE)) zhG) D6)) (d9 (j4 (G8 (D8 257 [zak,zai,zay,za3,zap]) zfF)) (d9 ziC (d9 zdr (d9 zfy (d9 zdo (C9 zc7 (d9 zfu (d9 (j4 (G8 (D8 160 [zak,zai,zbr,zat,zap]) u7)) zfA)) (d9 zfv (d9 (j4 (o9 zdg (G8 (D8 160 [zak,oL0,zay,zat,zap]) u7))) zj9))))))))))))))))
def f160:SFn:=⟨false,[some 4,some 1,some 0,some 6,some 5],24,[],d9 zh1 (d9 zfB (u6 0 (H6 WE))),none⟩
theorem ah7:J6 Tryz.prog 160 f160:=A9 (slots:=[2,1,12,25,0,4,3,32,10,39,14,56,13,11,75,80,97,15,17,16,18,19,125,20]) (pure:=false) (rc:=false) (by kernel_rfl)
def f161:SFn:=⟨false,[some 0,some 1,some 3],5,[.tmp 4],zaT,none⟩
theorem ah8:J6 Tryz.prog 161 f161:=A9 (slots:=[0,1,3,2,6]) (pure:=false) (rc:=false) (by kernel_rfl)
def Gb:SC:=d9 zcJ (d9 zcU (d9 (u6 1 (d9 (j4 (o9 zl8 (F9 ztr (rcL zaY zaN (rcP za4 zaE zkx))))) (d9 (d9 (j4 (F9 zkz (G8 (D8 258 [oL0]) zui))) (C9 zaC zlH D6)) (d9 (I9 0 (dcP zbf sNo (dcP ztP sNo (dcP zau sNo (dcP (gP oL0 true zsX) sNo (dcR ztm 0 sNo (dcP zrB sNo (dcR ztA 0 sNo (dcP (gP ztu true zbf) sNo (dcP (gP zvs true zaw) sNo (dcP (gP ztK true zuv) sNo (dcP zsz sNo (dcR ziI 0 sNo (dcP (gP zvu true zp6) sNo (dcP zkt zaG M0))))))))))))))) (C9 zaK (d9 (j4 (rcP zhL zaV u7)) F8) D6))))) zbA))
def f162:SFn:=⟨false,[some 0],11,[.tmp 10],d9 (j4 (rcL ztl zvt zcK)) (d9 (d9 zeb (u6 0 (H6 Gb))) zlI),none⟩
theorem ah9:J6 Tryz.prog 162 f162:=A9 (slots:=[0,1,8,7,9,6,4,15,3,29,2]) (pure:=false) (rc:=false) (by kernel_rfl)
def LC:SC:=d9 zcJ (d9 zcU (d9 (u6 1 (d9 (j4 (o9 zl8 zeo)) (j4 (o9 zfZ (F9 zao (F9 (K9 8 zaC) (G8 (bn X9 1 zat oL1 oL0) u7))))))) zbA))
def f163:SFn:=⟨false,[some 0],9,[.tmp 8],d9 (j4 (rcL ztl zvt (rcP zn6 zaE u7))) (d9 (j4 (R9 jw zbs)) (d9 (d9 zeb (u6 0 (H6 LC))) zh2)),none⟩
theorem aha:J6 Tryz.prog 163 f163:=A9 (slots:=[0,1,10,9,11,8,3,5,2]) (pure:=false) (rc:=false) (by kernel_rfl)
def f164:SFn:=⟨false,[some 0,some 1],6,[.tmp 5],d9 (j4 (rcL ztl zan (rcL zb7 zty (rcP zuT zaz u7)))) (d9 (j4 (o9 (dD (.func 259) [] [zal]) (rcL (bR [o8.nilFunc]) zaq zcB))) (d9 (j4 (o9 (dD (.func 262) [] [zam,zak,zal]) zbq)) F8)),none⟩
theorem ahb:J6 Tryz.prog 164 f164:=A9 (slots:=[0,1,3,2,5,4]) (pure:=false) (rc:=false) (by kernel_rfl)
def LD:SC:=d9 zgF (d9 zlq (d9 (u6 3 (d9 zi1 (j4 (o9 zb3 (o9 zsX (F9 zao (o9 (J9 [zaa,zaa] [(0,1,oL0),(1,1,za3)]) zhv))))))) zfo))
def LG:SC:=d9 zcJ (d9 zcU (d9 (u6 1 (d9 (j4 (o9 zl8 (F9 ztr (rcL zaY zaN zcV)))) (d9 (j4 (F9 zcl (F9 zkz (rcE (D8 265 [oL1,oL0]) zaV zgn)))) (u6 2 (H6 LD))))) zbA))
def f165:SFn:=⟨true,[some 0],14,[.tmp 13],d9 (j4 (rcL ztl zvt (rcP zbu zbz u7))) (d9 zpy (d9 (d9 zeb (u6 0 (H6 LG))) (d9 (j4 (rcP zb3 zbz u7)) F8))),none⟩
theorem P7:J6 Tryz.prog 165 f165:=A9 (slots:=[0,1,11,10,12,9,5,19,18,20,17,3,7,2]) (pure:=true) (rc:=false) (by kernel_rfl)
def f166:SFn:=⟨false,[some 1,some 0],4,[.tmp 3],d9 zvh (d9 (j4 (F9 zp1 (F9 (bB X9 1 zaa true oL0 zai) (o9 zbS (o9 zb0 zaM))))) (d9 znC F8)),none⟩
theorem ahc:J6 Tryz.prog 166 f166:=A9 (slots:=[1,0,5,3]) (pure:=false) (rc:=false) (by kernel_rfl)
def f167:SFn:=⟨false,[some 2,some 0,some 1],4,[.tmp 3],d9 zvh (d9 (j4 (o9 zrO (F9 zao (F9 zuJ (F9 (bB X9 1 zaa false oL0 zal) (o9 zkV zbh)))))) F8),none⟩
theorem ahd:J6 Tryz.prog 167 f167:=A9 (slots:=[1,2,0,4]) (pure:=false) (rc:=false) (by kernel_rfl)
def f168:SFn:=⟨false,[some 1,some 0,some 2],6,[.tmp 5],d9 (j4 zm4) (d9 (j4 (F9 zpj (o9 ztC (F9 zao (G8 (D8 169 [oL2,zai,oL0]) zd2))))) (d9 (j4 (F9 zpj (o9 ztC (F9 zao (o9 zax (G8 (D8 169 [oL3,zai,oL0]) znt)))))) (d9 (j4 (o9 (gP zam false zaF) (o9 (aO zam zuq oL0) zbq))) F8))),none⟩
theorem ahe:J6 Tryz.prog 168 f168:=A9 (slots:=[1,0,2,5,7,4]) (pure:=false) (rc:=false) (by kernel_rfl)
def f169:SFn:=⟨false,[some 0,some 2,some 3],9,[.tmp 7,.tmp 8],d9 (j4 (rcL ztl zvt (rcP ztw zaD zbY))) (d9 (d9 (j4 (F9 zcl (R9 (I6 1 1 [zaa] [(0,1,zam)]) (G8 (D8 266 [oL1,zal,oL0]) ztq)))) (d9 zdI (C9 zap (d9 (j4 (rcP ztw zaD zo6)) F8) D6))) (d9 (j4 (F9 zcl (G8 (D8 267 [oL0,zal,zam]) (o9 zbS (o9 zb0 (R9 zbc (G8 zqA zsk))))))) (d9 (j4 (rcP zaU zaD zbY)) F8))),none⟩
theorem ahf:J6 Tryz.prog 169 f169:=A9 (slots:=[0,3,1,2,8,17,10,6,7]) (pure:=false) (rc:=false) (by kernel_rfl)
def f170:SFn:=⟨false,[some 0],4,[.tmp 3],d9 zfX (d9 (d9 (j4 (o9 zcA (F9 zao (o9 zpu (o9 zm2 (F9 zbV (o9 znd (o9 zdZ (o9 zkc (F9 zbV (o9 (gP oL2 false (pIb iLt sLt oL0 (O5 (o8.int .i64 (Int.negSucc 2147483646))))) (o9 zdZ (o9 zkc (F9 zbV (o9 znd zjD))))))))))))))) (C9 zal (d9 zvh F8) D6)) (d9 (I9 0 (dcP zbG sNo (dcR zao 0 sNo (dcE (D8 269 [oL0]) sNo (dcP zcA sNo (dcR zao 1 sNo (dcE (D8 268 [oL2,oL0]) sNo (dcP zul sNo zso)))))))) F8)),none⟩
theorem ahg:J6 Tryz.prog 170 f170:=A9 (slots:=[0,1,20,2]) (pure:=false) (rc:=false) (by kernel_rfl)
def WG:SC:=d9 (d9 (j4 (o9 zoY (F9 zao (o9 ztt (rcP (pIb iLt sLt zaR oL0) za8 u7))))) zlo) (d9 (u6 3 (d9 (I9 0 (dcP zoY sNo (dcR zao 0 sNo (dcP zcn sNo (dcP ztF sNo (dcP zct sNo (dcR zao 0 sNo (dcP ztC sNo (dcR zao 0 sNo (dcP zdm sNo (dcP zau sNo (dcP (gP oL0 true zoY) sNo (dcR ztm 0 sNo (dcP (gP oL2 true zcn) sNo (dcP zun sNo (dcP zl0 sNo (dcR zgL 0 sNo (dcP (gP ztK true ztE) sNo (dcP (gP ztN true zmb) sNo (dcP zkR za6 M0)))))))))))))))))))) (C9 za3 zjp D6))) (j4 (o9 zcn (o9 zax zcs))))
def WH:SC:=d9 (d9 (j4 (o9 zsY (F9 zao (o9 ztt zu6)))) zeM) (d9 (u6 1 (d9 (j4 (o9 zsY (F9 zao (o9 zsi zcY)))) (d9 (I9 0 (dcP zjk sNo (dcR zao 0 sNo (dcP ztE sNo (dcP zmb sNo (dcP zau sNo (dcP (gP oL0 true zgR) sNo (dcR ztm 0 sNo (dcP (gP oL2 true zlj) sNo (dcR ztA 0 sNo (dcE (gE ztu true zph) sNo (dcP (gP zvs true ztC) sNo (dcR zoO 1 sNo (dcP (gP ztN true zdm) sNo (dcP (gP zuc true zau) sNo (dcP (gP oL0 false zlj) sNo (dcR zbV 0 sNo (dcP (gP oL2 false zgR) sNo (dcR ziq 0 sNo (dcE (gE ztu false zph) sNo (dcP (gP zvs false ztC) sNo (dcR (gRd ztK false zao) 1 sNo (dcP (gP ztN false zdm) sNo (dcP (gP (lD 17) true (aO zuc zuq oL0)) sNo (dcP (aO (lD 18) oL0 zvv) zaG M0))))))))))))))))))))))))) (C9 zaK zjp D6)))) zcj)
def f172:SFn:=⟨false,[some 0,some 1,some 3],14,[.tmp 13],d9 (j4 (rcL ztl zaN (rcL zb7 zty zqB))) (d9 (d9 (j4 (o9 ztR (F9 zao (rcP (pIb iEq sEq oL0 zam) zaq u7)))) (C9 zak zjp D6)) (d9 (d9 zeJ (u6 0 (H6 WH))) (d9 (d9 zfW (u6 2 (H6 WG))) (d9 (j4 zqB) F8)))),none⟩
theorem ahh:J6 Tryz.prog 172 f172:=A9 (slots:=[0,1,4,2,13,7,3,18,8,49,9,54,75,6]) (pure:=false) (rc:=false) (by kernel_rfl)
def LH:SC:=d9 zdz (u6 5 (d9 (j4 (o9 zes (G8 (D8 277 [zak,zap,oL0,zai,zat]) u7))) zci))
def zq:SC:=d9 zdF (u6 3 (d9 zcZ (d9 (u6 4 (H6 LH)) (d9 (d9 zeB (d9 zfg (C9 zaR (j4 (G8 (D8 277 [zak,zap,zaK,zal,zat]) u7)) D6))) zd0))))
def zw:SC:=d9 zdQ (u6 1 (d9 (j4 (G8 (D8 276 [zak,zap,zai,zat]) u7)) zc5))
def f177:SFn:=⟨false,[some 4,some 2,some 6],11,[],d9 zgX (d9 zej (d9 (u6 0 (H6 zw)) (d9 (j4 (G8 (D8 276 [zak,zap,zal,zat]) u7)) (u6 2 (H6 zq))))),none⟩
theorem ahi:J6 Tryz.prog 177 f177:=A9 (slots:=[6,8,1,13,0,7,2,30,35,9,54]) (pure:=false) (rc:=false) (by kernel_rfl)
def f178:SFn:=⟨false,[some 0,some 1],3,[.tmp 2],d9 zee (d9 (j4 (G8 (D8 278 [zay,zai]) zfj)) F8),none⟩
theorem ahj:J6 Tryz.prog 178 f178:=A9 (slots:=[0,1,4]) (pure:=false) (rc:=false) (by kernel_rfl)
def f179:SFn:=⟨false,[some 0,some 2],4,[.tmp 3],d9 zfX (d9 (j4 (o9 zbG (F9 zao (F9 zqP (o9 zmb zbh))))) F8),none⟩
theorem ahk:J6 Tryz.prog 179 f179:=A9 (slots:=[0,2,1,3]) (pure:=false) (rc:=false) (by kernel_rfl)
def WI:SC:=zbW
def f180:SFn:=⟨false,[some 0,some 1],9,[.tmp 8],d9 zgM (d9 (j4 (G8 (D8 279 [zay,zai]) zaM)) (d9 zdy (d9 (d9 zfY (u6 0 (H6 WI))) (d9 (j4 (R9 zju (G8 (om [Z] oL0) u7))) zka)))),none⟩
theorem ahl:J6 Tryz.prog 180 f180:=A9 (slots:=[0,1,5,12,6,19,7,29,4]) (pure:=false) (rc:=false) (by kernel_rfl)
def f181:SFn:=⟨false,[some 0],4,[.tmp 3],d9 (j4 (rcL ztl zvt zrC)) (d9 (j4 (o9 zhf (F9 zao (G8 (D8 281 [oL0]) (G8 (D8 280 [oL0]) zaM))))) (d9 (j4 (o9 (dD (.func 283) [] [zai]) (G8 (D8 282 [zal,oL0]) u7))) zjg)),none⟩
theorem ahm:J6 Tryz.prog 181 f181:=A9 (slots:=[0,1,3,2]) (pure:=false) (rc:=false) (by kernel_rfl)
def f182:SFn:=⟨false,[some 1,some 0],3,[.tmp 2],d9 zee (d9 (j4 (F9 zpk (G8 zsZ (o9 ztz zaM)))) F8),none⟩
theorem ahn:J6 Tryz.prog 182 f182:=A9 (slots:=[1,0,3]) (pure:=false) (rc:=false) (by kernel_rfl)
def f183:SFn:=⟨false,[some 0,some 2],6,[.tmp 5],d9 (j4 (rcL ztl zvt zm4)) (d9 (j4 (F9 zdk (G8 zsT (G8 ztg (o9 zbS (o9 zb0 (o9 (pExt oL2 2) (rcL zgb zan zsR)))))))) (d9 (j4 (F9 zd5 (G8 (D8 285 [oL0]) znt))) (d9 zj6 F8))),none⟩
theorem aho:J6 Tryz.prog 183 f183:=A9 (slots:=[0,2,1,5,8,4]) (pure:=false) (rc:=false) (by kernel_rfl)
def LJ:SC:=d9 zaS (d9 zaW (d9 (u6 1 (d9 zcg (d9 (j4 (o9 (J3 1 zay zap) (F9 zao (rcP (pIb iEq sEq zak oL0) zaN u7)))) zcm))) zaP))
def f184:SFn:=⟨false,[some 0,some 4],8,[.tmp 7],d9 zbI (d9 (d9 zc6 (u6 0 (H6 LJ))) zdj),none⟩
theorem ahp:J6 Tryz.prog 184 f184:=A9 (slots:=[0,8,7,9,1,5,16,4]) (pure:=false) (rc:=false) (by kernel_rfl)
def f185:SFn:=⟨true,[some 0,some 1],10,[.tmp 8,.tmp 9],d9 (j4 (rcL ztl zty (rcL zb7 zaz ziU))) (d9 (d9 (j4 (F9 zfk (G8 zuQ zbh))) (d9 zdH (C9 zak (d9 (j4 (rcP zaf zaE (rcP ztE zaG u7))) F8) D6))) (d9 (I9 0 (dcR zfk 0 sNo (dcE zte sNo (dcR zoZ 1 sNo (dcE (D8 286 [oL1,oL0]) sNo (dcP zau zaN M0)))))) (d9 (d9 zkJ zgA) (d9 (j4 (o9 ziP zkN)) F8)))),none⟩
theorem bF:J6 Tryz.prog 185 f185:=A9 (slots:=[0,1,2,6,11,3,7,18,4,5]) (pure:=true) (rc:=false) (by kernel_rfl)
def f186:SFn:=⟨true,[some 0,some 1],6,[.cell 4 (some 7),.tmp 5],d9 (j4 (rcL ztl zty (rcL zb7 zan zhH))) (d9 (j4 (F9 zfk (o9 (dD (.func 288) [] [zam]) ziy))) F8),none⟩
theorem WJ:J6 Tryz.prog 186 f186:=A9 (slots:=[0,1,2,3,4,5]) (pure:=true) (rc:=false) (by kernel_rfl)
def f187:SFn:=⟨true,[some 0],8,[.cell 4 (some 2),.tmp 6,.tmp 7],d9 (j4 (rcL ztl zvt (rcL zgb zaq (rcP zbu zaN zbn)))) (d9 (d9 ze5 (d9 zbd (C9 zam (d9 (j4 (o9 (J9 [zaa,Z] []) (G8 zoo (rcP zbu zaN (rcP za4 zaD u7))))) F8) D6))) (d9 (j4 (F9 zcl (G8 (D8 203 [oL0]) zbq))) (d9 (I9 0 (dcP ztx sNo (dcP zef sNo (dcP zpt sNo (dcR ztk 0 sNo (dcE zoo sNo (dcP ztx sNo (dcP zef sNo (dcP zrU sNo (dcR zao 1 sNo (dcP zau zaN (dcP zaf zaD M0)))))))))))) F8))),none⟩
theorem aH:J6 Tryz.prog 187 f187:=A9 (slots:=[0,1,5,10,2,6,3,4]) (pure:=true) (rc:=false) (by kernel_rfl)
def WK:SC:=d9 zdu (d9 zeM (d9 (u6 1 (d9 zot (I9 1 (dcP zbf sNo (dcP zcr sNo (dcP zcn sNo (dcP zed sNo (dcR zao 0 sNo (dcP zqC sNo (dcP zaF sNo (dcP zcn sNo (dcP zed sNo (dcR zao 0 sNo (dcP zfn sNo (dcL zbK 0 sNo (dcE (dG 2 16 zvC oL0) sNo (dcP zau zaE M0))))))))))))))))) zcx))
def f188:SFn:=⟨true,[some 0],13,[.tmp 11,.tmp 12],d9 (j4 (rcL ztl zvt (rcP zbu za8 zde))) (d9 (d9 (j4 (F9 ztO (G8 (D8 289 [oL0,zvG]) zaM))) (d9 zbd (C9 zam (d9 (j4 (rcP zbu za8 zlf)) F8) D6))) (d9 (j4 (F9 ztO (G8 (D8 290 [oL0]) (o9 zbS (o9 zb0 (rcP zb4 zaq zha)))))) (d9 zgM (d9 (d9 (j4 (rcP (lV zak) zaN zbb)) (u6 0 (H6 WK))) (d9 (j4 (rcP zbf za8 zde)) F8))))),none⟩
theorem bP:J6 Tryz.prog 188 f188:=A9 (slots:=[0,1,4,12,5,21,20,22,7,6,8,2,3]) (pure:=true) (rc:=false) (by kernel_rfl)
def f189:SFn:=⟨false,[some 0],3,[.tmp 2],d9 ztI (d9 zbH (d9 (j4 (R9 (I6 8 0 zav []) (G8 (dG 8 64 oL0 zay) zaM))) F8)),none⟩
theorem ahq:J6 Tryz.prog 189 f189:=A9 (slots:=[0,4,2]) (pure:=false) (rc:=false) (by kernel_rfl)
def WL:SC:=d9 zaS (d9 zaW (d9 (u6 1 (d9 (j4 (o9 zvH zoK)) (j4 (o9 ztx (F9 zkz (F9 zss (G8 (D8 118 [oL1,oL0,zaB,zaK]) (R9 zcM (G8 (dG 1 8 ztu oL0) zbq))))))))) zaP))
def f190:SFn:=⟨false,[some 0,some 9,some 6,some 7],11,[.tmp 10],d9 zlc (d9 zlW (d9 (d9 zbj (u6 0 (H6 WL))) (d9 (j4 (G8 (D8 191 [zap]) u7)) (d9 zot F8)))),none⟩
theorem ahr:J6 Tryz.prog 190 f190:=A9 (slots:=[0,12,11,13,10,7,2,3,9,1,6]) (pure:=false) (rc:=false) (by kernel_rfl)
def f191:SFn:=⟨false,[some 0],2,[],d9 zfN (j4 (o9 zni (G8 zqV (G8 (D8 291 [zay,zac,zai,oL0]) u7)))),none⟩
theorem ahs:J6 Tryz.prog 191 f191:=A9 (slots:=[0,2]) (pure:=false) (rc:=false) (by kernel_rfl)
def WM:SC:=d9 zaS (d9 zaW (d9 (u6 1 (d9 ztW (d9 (j4 (rcE zlF zaD u7)) (C9 zaC (d9 (j4 (rcP zaU zaG zqy)) F8) D6)))) zaP))
def f192:SFn:=⟨false,[some 0,some 5],11,[.tmp 9,.tmp 10],d9 (j4 (rcP zbu zaG zjt)) (d9 (d9 zbj (u6 0 (H6 WM))) (d9 zgM (d9 (j4 (rcP zbf zaG zjt)) F8))),none⟩
theorem aht:J6 Tryz.prog 192 f192:=A9 (slots:=[0,11,10,12,9,1,7,17,8,4,5]) (pure:=false) (rc:=false) (by kernel_rfl)
def f193:SFn:=⟨false,[some 1,some 0],3,[.tmp 2],d9 zee (d9 (j4 (F9 zpk (G8 zsZ zaM))) F8),none⟩
theorem ahu:J6 Tryz.prog 193 f193:=A9 (slots:=[1,0,3]) (pure:=false) (rc:=false) (by kernel_rfl)
def f194:SFn:=⟨false,[some 2,some 0],5,[.tmp 4],d9 zlX (d9 zfl (d9 (d9 zhe (d9 zlQ (C9 zam (j4 (o9 za4 (o9 za4 (o9 (Ua oL0) (R9 (lSl 1 oL2 none (some oL0)) (G8 (Et 1 [zaa] 8 oL0 zay) (o9 za4 (o9 ztt (R9 (lSl 1 oL2 none (some oL0)) zaM))))))))) D6))) zjf)),none⟩
theorem ahv:J6 Tryz.prog 194 f194:=A9 (slots:=[1,6,0,16,4]) (pure:=false) (rc:=false) (by kernel_rfl)
def f195:SFn:=⟨false,[some 0,some 1],5,[.cell 4 (some 8)],d9 zg9 (d9 (j4 (o9 ztC (o9 zuf (F9 zao (G8 zqT (o9 (dD (.func 293) [] [zam]) (G8 (D8 292 [oL1,oL0]) (o9 ztC zij)))))))) (d9 (j4 (F9 zem zp9)) F8)),none⟩
theorem ahw:J6 Tryz.prog 195 f195:=A9 (slots:=[0,1,2,3,4]) (pure:=false) (rc:=false) (by kernel_rfl)
def f196:SFn:=⟨false,[some 0,some 1],4,[.tmp 3],d9 zhU (d9 (j4 (F9 zuJ (o9 ztC (F9 zao (G8 zrQ zbh))))) F8),none⟩
theorem ahx:J6 Tryz.prog 196 f196:=A9 (slots:=[0,1,2,3]) (pure:=false) (rc:=false) (by kernel_rfl)
def f197:SFn:=⟨false,[some 0,some 1],3,[.tmp 2],d9 zee (d9 (j4 (G8 (D8 184 [zay,zai]) zfj)) F8),none⟩
theorem ahy:J6 Tryz.prog 197 f197:=A9 (slots:=[0,1,4]) (pure:=false) (rc:=false) (by kernel_rfl)
def f198:SFn:=⟨false,[some 0,some 4],7,[.tmp 6],d9 (j4 (rcL ztl zvt zbN)) (d9 (d9 ze3 (d9 zbd (C9 zam (d9 zpl F8) D6))) (d9 (d9 (j4 (F9 zdk (G8 (D8 294 [oL0,zak]) (rcP ztz zaz u7)))) (C9 zap zma D6)) (d9 zdW F8))),none⟩
theorem ahz:J6 Tryz.prog 198 f198:=A9 (slots:=[0,2,5,9,1,14,4]) (pure:=false) (rc:=false) (by kernel_rfl)
def WO:SC:=d9 zdu (d9 zeM (d9 (u6 1 (d9 zgh (d9 (d9 (j4 (F9 zcl (F9 zlr (G8 zpi (o9 zbS (o9 zb0 zcs)))))) (d9 (j4 (rcP (pIb iEq sEq zaR zac) za8 u7)) (C9 za2 (bf 1) D6))) (d9 (j4 (F9 zcl (F9 zlr (G8 (D8 186 [oL1,oL0]) (o9 zbS (o9 zb0 (rcL zby zbF (G8 znw (rcP zt8 za6 u7))))))))) (d9 (d9 zkj (C9 zbt (d9 (j4 (rcP zkK zcN (rcP ztY zda u7))) F8) D6)) (j4 (F9 (K9 7 zbB) (G8 (K3 7 zai oL0) u7)))))))) zcx))
def f199:SFn:=⟨false,[some 0,some 4],22,[.tmp 20,.tmp 21],d9 (j4 (rcL ztl zvt (rcP zkK zcN zf4))) (d9 (d9 ze5 (d9 zbd (C9 zam (d9 (j4 (rcP zkK zcN (rcP za4 zda u7))) F8) D6))) (d9 (d9 zhV (u6 0 (H6 WO))) (d9 (j4 (F9 zcl (G8 ztg (o9 zbS (o9 zb0 (o9 (pExt oL2 2) (rcL zgb zb6 (G8 zsG (rcP zt8 zbD u7))))))))) (d9 (d9 (j4 (rcP zmT zvy u7)) (C9 zbw (d9 (j4 (rcP zkK zcN (rcP zla zda u7))) F8) D6)) (d9 (d9 (j4 (F9 znb (G8 (D8 285 [oL0]) zmC))) (d9 (j4 (rcP zrS zcC u7)) (C9 zbr (d9 (j4 (rcP zkK zcN (rcP ze8 zda u7))) F8) D6))) (d9 (j4 (F9 zcl (F9 znb (o9 (J9 [zaa,zaa,Z,Z,Z,Z,Z,zaa,Z] [(0,7,oL1),(7,2,oL0)]) (R9 (Jf oL0) (rcP zau zcN zf4)))))) F8)))))),none⟩
theorem ahA:J6 Tryz.prog 199 f199:=A9 (slots:=[0,2,6,21,1,25,24,26,23,8,10,36,12,44,11,15,55,13,16,63,4,5]) (pure:=false) (rc:=false) (by kernel_rfl)
def f200:SFn:=⟨false,[some 0,some 1],7,[.tmp 6],d9 (j4 (rcL ztl zan (rcL zb7 zty zbN))) (d9 (u6 0 (d9 (j4 (o9 ztC (F9 zao (o9 zdn (F9 zao (o9 (pIb iLe sLe oL2 oL0) (o9 (gP oL0 true zcO) (F9 ztm (o9 (gP oL2 true ztR) (F9 ztA (o9 zu2 ziN))))))))))) (C9 zak zma (d9 (j4 (o9 zcO (F9 zao (o9 ztC (F9 zao (o9 zkV (o9 (gP oL0 false ztR) (F9 zbV (o9 zqw (F9 ziq (o9 (gP ztu false zkV) (o9 zfP zbq)))))))))))) (C9 zap (d9 (j4 (rcP zdO zaN u7)) F8) D6))))) (d9 (j4 (rcP zmQ zaN u7)) F8)),none⟩
theorem ahB:J6 Tryz.prog 200 f200:=A9 (slots:=[0,1,3,2,5,18,4]) (pure:=false) (rc:=false) (by kernel_rfl)
def f201:SFn:=⟨false,[some 1,some 0],5,[.cell 4 (some 2)],d9 (j4 (rcL ztl zan (rcL zaJ zaq u7))) (d9 (j4 (o9 (dD (.func 295) [zai] []) (o9 (dD (.func 296) [zai] []) (o9 (J9 [o8.nilFunc,o8.nilFunc] [(0,1,oL1),(1,1,oL0)]) (rcL zr0 zty zdb))))) (d9 (I9 0 (dcP (bA 1 2 zal zac) sNo (dcR zao 0 sNo (dcR zd5 0 sNo (dcE zmi sNo (dcP (bA 1 2 zal zae) sNo (dcR zao 1 sNo (dcR zd5 1 sNo (dcE zmi sNo (dcP zfn sNo (dcE zoo sNo M0))))))))))) F8)),none⟩
theorem ahC:J6 Tryz.prog 201 f201:=A9 (slots:=[1,0,5,3,4]) (pure:=false) (rc:=false) (by kernel_rfl)
def f202:SFn:=⟨false,[some 0,some 1],6,[.cell 4 (some 7),.tmp 5],d9 (j4 (rcL ztl zan (rcL zb7 zty zhH))) (d9 (I9 0 (dcP zeQ sNo (dcR zao 0 sNo (dcE zmR sNo (dcP zd3 sNo (dcR zao 1 sNo (dcE zmR sNo (dcP zeQ sNo (dcE (K3 1 oL0 ztu) sNo (dcP zd3 sNo zh3)))))))))) (d9 (j4 (F9 ziZ (o9 (dD (.func 297) [] [zal]) ziy))) F8)),none⟩
theorem ahD:J6 Tryz.prog 202 f202:=A9 (slots:=[0,1,3,2,4,5]) (pure:=false) (rc:=false) (by kernel_rfl)
def f203:SFn:=⟨false,[some 0],4,[.tmp 3],d9 (j4 (rcL ztl zvt (rcP zkK zan u7))) (d9 (j4 (F9 zcl (o9 (J9 [zaa,zaa,Z,Z,Z,Z,Z,Z,zaa,Z,Z] [(0,7,oL0)]) (R9 (Jf oL0) zaM)))) (d9 (j4 (G8 (D8 298 [zal]) u7)) zjg)),none⟩
theorem ahE:J6 Tryz.prog 203 f203:=A9 (slots:=[0,1,3,2]) (pure:=false) (rc:=false) (by kernel_rfl)
def f204:SFn:=⟨false,[some 2,some 0,some 3],5,[.tmp 4],d9 zcD (d9 (d9 zgs (C9 zai (d9 zcD F8) D6)) (d9 (I9 0 (dcP za4 sNo (dcP zef sNo (dcP zsu sNo (dcR zao 0 sNo (dcP ztp sNo (dcP zfO sNo (dcR zao 0 sNo (dcP ztE sNo (dcP zhl sNo (dcE (D8 286 [zvs,oL0]) sNo (dcP zax sNo zhN)))))))))))) F8)),none⟩
theorem ahF:J6 Tryz.prog 204 f204:=A9 (slots:=[1,9,0,2,6]) (pure:=false) (rc:=false) (by kernel_rfl)
def f205:SFn:=⟨false,[some 1,some 0],4,[.tmp 3],d9 (j4 (rcL ztl zty zrC)) (d9 (j4 (G8 (D8 153 [zai]) (o9 (dD (.func 300) [] [zal]) (G8 (D8 299 [oL1,oL0]) zbh)))) F8),none⟩
theorem ahG:J6 Tryz.prog 205 f205:=A9 (slots:=[1,0,3,4]) (pure:=false) (rc:=false) (by kernel_rfl)
def f206:SFn:=⟨false,[some 0,some 2,some 3],10,[.tmp 8,.tmp 9],d9 (j4 (rcL ztl zvt ziU)) (d9 (d9 (j4 (F9 ztO (R9 (I6 1 2 [zaa] [(0,1,zal),(1,1,zam)]) (G8 (D8 289 [oL1,oL0]) ztq)))) (d9 zdI (C9 zap (d9 (j4 (rcP zaf zaE (rcP zaF zaG u7))) F8) D6))) (d9 (j4 (F9 ztO (G8 (D8 301 [oL0,zj7,zal]) (o9 (J3 1 oL0 zam) (F9 zao zbs))))) (d9 (d9 (j4 (rcP (pIb iEq sEq zat zk1) zaD u7)) zgA) (d9 (j4 (rcP zaU zaE zbe)) F8)))),none⟩
theorem ahH:J6 Tryz.prog 206 f206:=A9 (slots:=[0,3,1,2,8,16,9,25,6,7]) (pure:=false) (rc:=false) (by kernel_rfl)
def f207:SFn:=⟨false,[some 0,some 1,some 2],15,[.cell 12 (some 2),.tmp 14],d9 (j4 (rcL ztl zan (rcL zb7 zaq (rcL zrz zbz (rcL zaJ za6 zdd))))) (d9 (I9 2 (dcR ziZ 0 sNo (dcR zmA 0 sNo (dcE (D8 302 [oL1,oL0]) sNo (dcR ziZ 1 sNo (dcR zmA 1 sNo (dcE (D8 303 [oL1,oL0]) sNo (dcL zbc 0 zaz (dcL zaJ 1 zaD zn0))))))))) (d9 (j4 (o9 zmE (F9 ztk (G8 (D8 304 [oL0]) zgf)))) (d9 (j4 (o9 zmD (F9 ztk (G8 (D8 305 [oL0]) (o9 zbS (o9 zb0 zin)))))) (d9 (I9 0 (dcP zaU sNo (dcP zfZ sNo (dcR zao 0 sNo (dcP zhh sNo (dcP zs0 sNo (dcR zao 0 sNo (dcP zt0 sNo (dcP zbf sNo (dcP zgU sNo (dcR zao 0 sNo (dcP zhh sNo (dcP zs0 sNo (dcR zao 0 sNo (dcP zhh sNo (dcP (bg ztN) zaG zrA)))))))))))))))) (d9 (d9 (j4 (rcP (pIb iGt sGt zaK zaR) za8 u7)) (C9 za2 (d9 (j4 (o9 zdp (G8 zrD (rcP zd4 zbF u7)))) F8) D6)) (d9 (j4 (o9 (H8 0 zbt) (F9 zao (o9 (pIb bG bI oL0 zaK) (o9 (H8 1 zbt) (F9 zao (o9 (pIb bG bI oL0 zaR) (o9 zhn (G8 zrD zdd))))))))) F8)))))),none⟩
theorem ahI:J6 Tryz.prog 207 f207:=A9 (slots:=[0,1,2,3,4,8,10,9,12,14,15,50,6,5,7]) (pure:=false) (rc:=false) (by kernel_rfl)
def f208:SFn:=⟨false,[some 0],2,[.tmp 1],d9 zpm (d9 (j4 (G8 (D8 306 [zay]) zto)) F8),none⟩
theorem ahJ:J6 Tryz.prog 208 f208:=A9 (slots:=[0,2]) (pure:=false) (rc:=false) (by kernel_rfl)
def f225:SFn:=⟨false,[some 0],3,[.tmp 2],d9 zmo (d9 (j4 (o9 zgq (o9 zct (F9 zao (o9 zgq (o9 zc9 (F9 zao (R9 (I6 1 2 [zaa] [(0,1,oL3),(1,1,oL0)]) (G8 (D8 132 [O5 (o8.str [119,105,116,104,100,114,97,119]),oL0]) zaM))))))))) F8),none⟩
theorem ahK:J6 Tryz.prog 225 f225:=A9 (slots:=[0,1,2]) (pure:=false) (rc:=false) (by kernel_rfl)
def f227:SFn:=⟨false,[some 0],3,[.tmp 2],d9 zee (d9 (j4 (G8 (D8 309 [zay,zvG]) (o9 zbS (o9 zb0 (o9 (pExt oL2 2) zto))))) (d9 (j4 (o9 (pIb iEq sEq zai zac) zaM)) F8)),none⟩
theorem ahL:J6 Tryz.prog 227 f227:=A9 (slots:=[0,5,2]) (pure:=false) (rc:=false) (by kernel_rfl)
def WQ:SC:=za0
def WR:SC:=d9 zbL (d9 (u6 1 (d9 zd1 (u6 2 (H6 WQ)))) zbk)
def f228:SFn:=⟨false,[some 6,some 0,some 2,some 5],8,[],d9 zcb (u6 0 (H6 WR)),none⟩
theorem ahM:J6 Tryz.prog 228 f228:=A9 (slots:=[1,8,2,14,9,3,0,34]) (pure:=false) (rc:=false) (by kernel_rfl)
def f237:SFn:=⟨false,[some 0],5,[.tmp 3],d9 zdY (d9 (d9 (j4 (rcP (pIb iGe sGe zay (O5 (o8.int .u64 (Int.ofNat 4294967296)))) zvt u7)) (C9 zai (d9 (j4 (o9 ztp (o9 (KJ oL0 (O5 (o8.int .u64 (Int.ofNat 32)))) zt9))) (j4 (rcP (bg (O5 (o8.int .i64 (Int.ofNat 32)))) zan u7))) D6)) (d9 (d9 (j4 (rcP (pIb iGe sGe zay (O5 (o8.int .u64 (Int.ofNat 65536)))) zty u7)) (C9 zal (d9 (j4 (o9 ztp (o9 (KJ oL0 (O5 (o8.int .u64 (Int.ofNat 16)))) zt9))) (j4 (o9 ztE (o9 (pIb bG bI oL0 (O5 (o8.int .i64 (Int.ofNat 16)))) zbh)))) D6)) (d9 (d9 (j4 (rcP (pIb iGe sGe zay (O5 (o8.int .u64 (Int.ofNat 256)))) zaq u7)) (C9 zak (d9 (j4 (o9 ztp (o9 (KJ oL0 (O5 (o8.int .u64 (Int.ofNat 8)))) zt9))) (j4 (o9 ztE (o9 (pIb bG bI oL0 ztX) zbh)))) D6)) (d9 (j4 (o9 ztE (o9 (jv .u8 zay) (o9 (Cx (O5 (o8.str [0,1,2,2,3,3,3,3,4,4,4,4,4,4,4,4,5,5,5,5,5,5,5,5,5,5,5,5,5,5,5,5,6,6,6,6,6,6,6,6,6,6,6,6,6,6,6,6,6,6,6,6,6,6,6,6,6,6,6,6,6,6,6,6,7,7,7,7,7,7,7,7,7,7,7,7,7,7,7,7,7,7,7,7,7,7,7,7,7,7,7,7,7,7,7,7,7,7,7,7,7,7,7,7,7,7,7,7,7,7,7,7,7,7,7,7,7,7,7,7,7,7,7,7,7,7,7,7,8,8,8,8,8,8,8,8,8,8,8,8,8,8,8,8,8,8,8,8,8,8,8,8,8,8,8,8,8,8,8,8,8,8,8,8,8,8,8,8,8,8,8,8,8,8,8,8,8,8,8,8,8,8,8,8,8,8,8,8,8,8,8,8,8,8,8,8,8,8,8,8,8,8,8,8,8,8,8,8,8,8,8,8,8,8,8,8,8,8,8,8,8,8,8,8,8,8,8,8,8,8,8,8,8,8,8,8,8,8,8,8,8,8,8,8,8,8,8,8,8,8,8,8,8,8,8,8])) oL0) (o9 zov (o9 zlv zbh)))))) F8)))),none⟩
theorem ahN:J6 Tryz.prog 237 f237:=A9 (slots:=[0,4,8,2,14]) (pure:=false) (rc:=false) (by kernel_rfl)
def WS:SC:=za1
def WT:SC:=d9 zbL (d9 (u6 1 (d9 zd1 (u6 2 (H6 WS)))) zbk)
def f238:SFn:=⟨false,[some 6,some 0,some 2,some 5],8,[],d9 zcb (u6 0 (H6 WT)),none⟩
theorem ahO:J6 Tryz.prog 238 f238:=A9 (slots:=[1,8,2,14,9,3,0,34]) (pure:=false) (rc:=false) (by kernel_rfl)
def WU:SC:=d9 (d9 (I9 0 (dcP zaF sNo (dcP ztp sNo (dcP zum sNo (dcP zau sNo (dcP ztL sNo (dcP zuC sNo (dcP zuD sNo (dcP zsF sNo (dcR (gRd ztu true zh0) 0 sNo (dcP zut sNo (dcP zt4 sNo (dcP zuu sNo (dcP (gP zuc true zsI) sNo (dcR (gRd zvu true zh0) 0 sNo ztn))))))))))))))) ztG) (d9 (u6 3 (I9 0 (dcP zaU sNo (dcP zaF sNo (dcP zaU sNo (dcP zaF sNo (dcP zaw sNo (dcP zsI sNo (dcR zh0 0 sNo (dcP zaU sNo (dcP zaF sNo (dcP zoN sNo (dcR zh0 0 sNo (dcP (J3 4 zvw zvu) sNo (dcE (K3 4 oL0 zvs) sNo (dcP zaU sNo (dcP zaF sNo (dcP zaw sNo (dcP zsI sNo (dcE (K3 4 oL0 ztK) sNo M0)))))))))))))))))))) ztH)
def WV:SC:=d9 zbL (d9 (u6 1 (d9 zd1 (u6 2 (H6 WU)))) zbk)
def f246:SFn:=⟨false,[some 6,some 0,some 2,some 5],8,[],d9 zcb (u6 0 (H6 WV)),none⟩
theorem ahP:J6 Tryz.prog 246 f246:=A9 (slots:=[1,8,2,14,9,3,0,34]) (pure:=false) (rc:=false) (by kernel_rfl)
def WW:SC:=za0
def WX:SC:=d9 zbL (d9 (u6 1 (d9 zd1 (u6 2 (H6 WW)))) zbk)
def f248:SFn:=⟨false,[some 6,some 0,some 2,some 5],8,[],d9 zcb (u6 0 (H6 WX)),none⟩
theorem ahQ:J6 Tryz.prog 248 f248:=A9 (slots:=[1,8,2,14,9,3,0,34]) (pure:=false) (rc:=false) (by kernel_rfl)
def WY:SC:=za1
def WZ:SC:=d9 zbL (d9 (u6 1 (d9 zd1 (u6 2 (H6 WY)))) zbk)
def f250:SFn:=⟨false,[some 6,some 0,some 2,some 5],8,[],d9 zcb (u6 0 (H6 WZ)),none⟩
theorem ahR:J6 Tryz.prog 250 f250:=A9 (slots:=[1,8,2,14,9,3,0,34]) (pure:=false) (rc:=false) (by kernel_rfl)
def f258:SFn:=⟨false,[some 0],4,[.tmp 3],d9 zfX (d9 (j4 (o9 zdw (F9 ztk (G8 zth (o9 zno (o9 zlg (F9 zdM (G8 (gE oL3 true (D8 324 [oL0,O5 (o8.int .i64 (Int.negSucc 999)),zt5])) (o9 ztv (o9 zno (o9 zgQ (F9 zdM (o9 (gP oL3 true (pIb iLe sLe oL0 zfI)) zjo))))))))))))) (d9 (j4 (o9 zbG (F9 zao (G8 zlw (o9 ziv (F9 ztm (G8 (gE oL2 true (D8 260 [oL0])) (o9 zce (o9 zkw (F9 ztm (G8 (gE oL2 true (D8 324 [oL0,zae,zuS])) (o9 zce (o9 znk (F9 ze7 (G8 (gE oL2 true (D8 161 [oL0,O5 (o8.int .i64 (Int.negSucc 1073741823)),zhs])) (o9 zce (o9 zsd (o9 zmh (o9 znl (F9 ztm (G8 (gE oL2 true (D8 324 [oL0,zac,O5 (o8.int .i64 (Int.ofNat 1048576))])) (o9 zce zbh)))))))))))))))))))))) F8)),none⟩
theorem ahS:J6 Tryz.prog 258 f258:=A9 (slots:=[0,1,3,2]) (pure:=false) (rc:=false) (by kernel_rfl)
def f259:SFn:=⟨false,[some 3,some 0,some 2],5,[.tmp 4],d9 zcD (d9 (d9 (j4 (G8 (D8 260 [zay]) (rcP ztz zvt u7))) (C9 zai (d9 (j4 znT) F8) D6)) (d9 (j4 (F9 zqP (G8 (D8 261 [oL0,zam,zay]) ztq))) F8)),none⟩
theorem ahT:J6 Tryz.prog 259 f259:=A9 (slots:=[1,8,2,0,5]) (pure:=false) (rc:=false) (by kernel_rfl)
def f260:SFn:=⟨false,[some 0],2,[.tmp 1],d9 zeY (d9 (j4 (G8 (D8 324 [zay,zac,zt3]) zto)) F8),none⟩
theorem ahU:J6 Tryz.prog 260 f260:=A9 (slots:=[0,2]) (pure:=false) (rc:=false) (by kernel_rfl)
def f261:SFn:=⟨false,[some 0,some 1,some 4],8,[.tmp 7],d9 zbI (d9 (j4 (F9 (bB X9 1 zdt true zay zai) (o9 zbS (o9 zb0 (rcL zaY zaz zuN))))) (d9 (u6 0 (d9 znC (C9 zam zlL (d9 (j4 (o9 zmF (F9 zao (o9 zvF zbs)))) (C9 zat (d9 (j4 (rcP zqW zaD u7)) F8) D6))))) zfa)),none⟩
theorem ahV:J6 Tryz.prog 261 f261:=A9 (slots:=[0,1,8,15,2,7,18,6]) (pure:=false) (rc:=false) (by kernel_rfl)
def LK:SC:=d9 zdo (d9 (C9 zc7 D6 zqs) (d9 (u6 7 (d9 (j4 (o9 (J3 2 zcH zb1) (F9 ztk (rcL zaJ zds zdb)))) (d9 (j4 (F9 zps (o9 (H8 0 zdv) (F9 zao (o9 (H8 1 zdv) (F9 zao (G8 znB (G8 zlB (rcP ztz zb8 u7))))))))) (C9 zdA F8 D6)))) ziH))
def LM:SC:=d9 (j4 (rcP (pIb iLt sLt zbl zbw) zb6 u7)) (d9 zo2 (d9 (u6 5 (d9 (j4 (rcP zla zcS u7)) (d9 (j4 (F9 zpj (F9 zsv (G8 (D8 264 [oL1,oL0,zbx]) (G8 zlB (rcP ztz zcC u7)))))) (C9 zbr F8 D6)))) (j4 (o9 (pIb bG bI zbl zae) zht))))
def LP:SC:=d9 zk9 (d9 zlo (d9 (u6 3 (d9 (j4 (rcP zcr zbz u7)) (d9 (j4 (F9 zpj (F9 zsv (G8 (D8 263 [oL1,oL0,zbt]) (G8 zlB (rcP ztz zbF u7)))))) zqj))) zje))
def LQ:SC:=d9 zaS (d9 zaW (d9 (u6 1 (d9 (j4 (o9 zqk (F9 ztk (rcL zaJ zaD zdb)))) (d9 (j4 (F9 zps (o9 zfZ (F9 zao (o9 zgU (F9 zao (G8 znB (G8 zlB (rcP ztz zaE u7))))))))) (C9 zaB F8 D6)))) zaP))
def f262:SFn:=⟨false,[some 5,some 0,some 6,some 12],26,[],d9 (d9 (j4 (o9 (H8 3 zay) zjR)) (u6 0 (H6 LQ))) (d9 (d9 (j4 (o9 (H8 4 zay) (F9 zao zkQ))) (u6 2 (H6 LP))) (d9 (d9 (j4 (o9 (H8 5 zay) (F9 zao (rcP ztt zvy zeG)))) (u6 4 (H6 LM))) (d9 (j4 (o9 (H8 6 zay) (rcR zao zdB zjU))) (u6 6 (H6 LK))))),none⟩
theorem ahW:J6 Tryz.prog 262 f262:=A9 (slots:=[1,14,13,15,12,0,2,6,26,31,30,32,3,7,40,45,44,46,8,54,59,58,60,57,10,71]) (pure:=false) (rc:=false) (by kernel_rfl)
end
end Go.Proofs.YtefodipjjofocaaGreatDoor.TT

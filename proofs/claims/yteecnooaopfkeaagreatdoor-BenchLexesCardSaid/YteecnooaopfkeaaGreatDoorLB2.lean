/- The tables: each function of the program is the code that stands here; no condition. -/
import Derived.Test.YteecnooaopfkeaaGreatDoorLB0
import Derived.KernelRfl
import Derived.Test.YteecnooaopfkeaaGreatDoorProg
set_option linter.unusedSimpArgs false
set_option linter.unusedVariables false
namespace Go.Proofs.YteecnooaopfkeaaGreatDoor.TT
open Go Go.AM
set_option maxRecDepth 100000
noncomputable section
def aaI:SC:=d9 (j4 (u6 (xw zaf) zhE)) (d9 zcs (o7 1 (d9 (j4 (A9 (kY zaf) (j5 zb9 (j5 zcD (rcL zct zh9 (rcP zgF zas (u6 (C9 2 oL1 oL2) j6))))))) (j4 (A9 zhU (u6 (y5 eqStr 1 zh8 zam oL0) j6))))))
def f83:SFn:=⟨false,[some 3,some 0],6,[],d9 (j4 (rcE (iU zah) ziX j6)) (o7 0 (D9 aaI)),none⟩
theorem aht:IsF 83 f83:=isE [1,7,9,0,4,5]
def aaJ:SC:=d9 zay (d9 zaF (d9 (o7 1 (d9 (j4 (j5 zgB (A9 zir (rcL zaO zat zcL)))) (d9 (j4 (A9 (I5 4 zaq) (u6 (o8 159 [zaj,zau,oL0]) zbA))) (d9 zdJ (l5 zaG (d9 (j4 (rcP zfL zaI j6)) o9) l7))))) zav))
def f84:SFn:=⟨false,[some 5,some 6,some 0],11,[.tmp 10],d9 zeH (d9 (d9 zaB (o7 0 (D9 aaJ))) (d9 zeH o9)),none⟩
theorem ahu:IsF 84 f84:=isE [2,12,11,13,10,0,1,8,9,21,6]
def aaK:SC:=d9 (d9 (j4 (rcP (pNe vD zaf zdE) ziV j6)) zcs) (d9 (o7 1 (d9 (j4 (j5 (O7 zaf) (j5 zdK (A9 zao (A9 (xu eqStr 1 zaa true oL0 zh8) (j5 zb9 (j5 zcD zbd))))))) (d9 zdF (l5 zaj (d9 (j4 (rcP zaK zib j6)) o9) l7)))) (j4 (j5 zaK (j5 zcH (j5 zic (A9 zao zia))))))
def f85:SFn:=⟨false,[some 0,some 3],7,[.tmp 6],d9 zfT (d9 (d9 zew (o7 0 (D9 aaK))) (d9 zfT o9)),none⟩
theorem ahv:IsF 85 f85:=isE [0,5,10,1,7,24,4]
def aaL:SC:=d9 (j4 (rcP zf3 zat j6)) (d9 (l5 zaq l7 ziL) (d9 (o7 1 (d9 (j4 (j5 (G8 1 zaA zaj) (A9 zao zb5))) (d9 (j4 (j5 zda (j5 zfV zb5))) (d9 (d9 (j4 (rcP (pIb iGt sGt zaG (x9 (j3.int .u8 (Int.ofNat 9)))) zaI j6)) (l5 zaZ zcq l7)) (j4 (j5 zcF (j5 (pIb Ig cu oL0 zby) (j5 (kI .i64 zaG) (j5 zgZ zdP))))))))) (j4 (j5 (pIb fH fK zaj zad) zaS))))
def f91:SFn:=⟨false,[some 0],18,[.tmp 16,.tmp 17],d9 (j4 (rcP zae zcl zfF)) (d9 (j4 (j5 ziH zia)) (d9 (d9 (j4 (j5 (gP zie true zaK) (j5 (gP zie true zgd) (j5 (gP zie true zak) (j5 ziy (j5 (gP oL1 true (pIb iLt sLt oL0 zby)) (j5 (gP zie true zil) (j5 (Z8 zie oL0 zie) (j5 (gP oL0 false zer) (j5 ziy (j5 (gP oL1 true zgd) (j5 (gP oL2 true zak) (j5 ziy (j5 (gP oL1 true (pIb iLt sLt oL0 (x9 (j3.int .i64 (Int.ofNat 19))))) (j5 (gP zcI true zil) (j5 (gP ziu false zeG) (rcP zh2 ziV j6))))))))))))))))) (l5 zan (d9 (j4 (rcP zaz zif j6)) (d9 (d9 (j4 (j5 zcV (j5 zge (j5 zb1 (j5 zfC (j5 (gP oL2 false (pIb iEq sEq oL0 (x9 (j3.int .u8 (Int.ofNat 43))))) (rcP zc2 zai j6))))))) (l5 zh8 (d9 (j4 (j5 zaz (j5 (aW oL0 (some zad) none) ziv))) (d9 (j4 (j5 ziH (rcP zgb zas j6))) (l5 zam zcq l7))) l7)) (d9 (j4 ze4) (d9 (d9 (j4 (rcL (qz zah) zaL (rcP zio zib zcr))) (o7 0 (D9 aaL))) (d9 (d9 (j4 (j5 (nC zbq zac) (rcP zge zih j6))) (l5 zbL (j4 (j5 zcF (j5 (KM oL0) zdP))) l7)) (d9 (j4 (rcP zcF zcl zfF)) o9)))))) l7)) (d9 (j4 (u6 (o8 169 [zah,zby,zac]) (j5 zb9 (j5 zcD (rcP zbQ zcv (rcP zbQ zbz j6)))))) (d9 (j4 (rcP zhF zcl (rcP (J6 zca) (sL zaL) j6))) o9)))),none⟩
theorem ahw:IsF 91 f91:=isE [0,4,30,39,44,49,48,50,47,8,56,6,5,66,9,10,2,3]
def f93:SFn:=⟨false,[some 0,some 1],3,[.tmp 2],d9 zbo (d9 (j4 (j5 ziH (j5 zdD (j5 (pIb iGe sGe oL1 oL0) (j5 zbj (j5 zd9 (j5 (gP oL2 true (tq oL0)) (j5 (gP oL3 true (aW oL2 none (some oL0))) (j5 (gP zbT true zaK) (j5 (gP zcI true (pIb iEq sEq oL1 oL0)) (j5 zeG zaw))))))))))) o9),none⟩
theorem ahx:IsF 93 f93:=isE [0,1,4]
def f94:SFn:=⟨true,[some 0,some 1],3,[.tmp 2],d9 zcf (d9 (j4 (u6 (o8 174 [zah,zaf]) zaw)) o9),none⟩
theorem ahy:IsF 94 f94:=isP [0,1,4]
def f95:SFn:=⟨false,[some 2,some 0],5,[.tmp 4],d9 (j4 zdH) (d9 (j4 zfp) (d9 (d9 (j4 (j5 zcV (rcE zg9 ziX j6))) (l5 zaf (j4 (rcP zaV zai j6)) l7)) (d9 (j4 (j5 (O7 zan) (j5 zic (A9 zao (j5 zio (j5 zbu (j5 zfk (j5 zd2 (j5 zec (A9 zdc (j5 zcn (A9 zhx (j5 (gP zix true zaT) (j5 (gP ziu true zaz) (j5 (gP ziF true (E9 [zaa,zin] [(0,1,oL1),(1,1,oL0)])) (j5 (gP zeT true (pEq (kg [.i,.s]) oL3 oL0)) (j5 zfR zbd))))))))))))))))) o9))),none⟩
theorem ahz:IsF 95 f95:=isE [1,8,0,5,4]
def f96:SFn:=⟨false,[some 0],10,[.cell 3 (some 4)],d9 (j4 (rcL zaO zai j6)) (d9 (d9 (j4 (j5 ziW (j5 zic (A9 zao (j5 zio (j5 zbu (j5 zbj (j5 zd2 (j5 zec (A9 zdc (j5 zcn (j5 zhB (A9 zfM (j5 (gP ziu true zch) (rcP zdr ziX j6))))))))))))))) (l5 zaf (d9 (j4 (j5 ziW (j5 zic (A9 zao (j5 zbW (j5 zdK (A9 zao (u6 (o8 48 [oL0]) (j5 zb9 (j5 zcD (rcP zbQ ziV j6))))))))))) (d9 za2 (d9 (j4 (j5 (E9 zap [(0,1,zad),(1,1,zan)]) zdl)) o9))) l7)) (d9 (d9 (j4 (rcE zg0 zas j6)) (l5 zam (d9 (j4 (u6 zbN (rcL zaO zh9 zcL))) (d9 zfD (d9 (j4 (A9 (I5 4 zaj) zdl)) o9))) l7)) (d9 (j4 (u6 (o8 100 [zah]) zaQ)) (d9 (d9 (j4 (u6 zg0 zhw)) (l5 zau (d9 (j4 (j5 (E9 zap [(0,1,zar),(2,1,zaq)]) zdl)) o9) l7)) (d9 (j4 (j5 (E9 zap [(0,1,zaJ),(2,1,zaq)]) (rcL zaO zaD zcL))) (d9 (d9 (j4 (u6 (o8 55 [zah,zek]) (rcP zip zaL j6))) (l5 zaA (d9 (j4 (u6 (o8 98 [zah]) (j5 (D8 3 zaG) zdg))) zfD) l7)) (d9 (j4 (A9 (I5 4 zaG) zdl)) o9))))))),none⟩
theorem ahA:IsF 96 f96:=isE [0,23,3,2,46,5,56,6,63,7]
def aaM:SC:=d9 (j4 (u6 (xw zah) (rcP zb9 ziX j6))) (d9 zeL (o7 1 (d9 (j4 (A9 (kY zah) (j5 zb9 (j5 zcD (rcP zbQ ziV zef))))) (d9 (j4 (u6 (o8 176 [zan]) (j5 zhl (j5 zg6 (j5 (gP oL1 true ziY) (u6 (gE oL2 true (o8 95 [oL1,oL0])) (rcP zik zib j6))))))) (l5 zau (d9 (j4 (j5 zhG (j5 zic (A9 zao (eX (lSl 2 oL0 (some zad) none) (j5 zhG zi1)))))) (d9 (j4 (rcP zbk zat j6)) o9)) l7)))))
def f97:SFn:=⟨false,[some 4,some 3],8,[.tmp 7],d9 zaC (d9 (d9 (j4 (u6 (o8 175 []) (rcE (iU oL0) sH j6))) (o7 0 (D9 aaM))) zeg),none⟩
theorem ahB:IsF 97 f97:=isE [8,10,5,1,0,6,22,4]
def aaN:SC:=d9 (d9 (j4 (rcE (o8 55 [zah,x9 (j3.str [44])]) ziX j6)) zeL) (o7 1 (j4 (j5 zbk (u6 zbN (eX zaH (u6 (tX 4 56 oL2 oL0) zaw))))))
def f98:SFn:=⟨false,[some 0],4,[.tmp 3],d9 (j4 zhe) (d9 (j4 (u6 zbN (eX zaH zaw))) (d9 (o7 0 (D9 aaN)) zco)),none⟩
theorem ahC:IsF 98 f98:=isE [0,8,3,2]
def f99:SFn:=⟨false,[some 0],2,[.tmp 1],d9 za6 (d9 (j4 (j5 ziW (j5 zic (A9 zao (j5 zio (j5 zbu (j5 zbj (j5 zd2 (j5 zec (A9 zdc (j5 zcn (j5 zhB (A9 zfM (j5 (gP ziu true zbt) (j5 zdr (j5 zbj (j5 zd2 (j5 zec (A9 zdc (j5 zcn (j5 (gP zcI true zdK) (A9 zfM (u6 (gE ziu true (o8 177 [oL0])) (j5 (gP ziF true zip) (j5 (Z8 zeT oL0 zie) zia))))))))))))))))))))))))) o9),none⟩
theorem ahD:IsF 99 f99:=isE [0,2]
def f100:SFn:=⟨false,[some 0],4,[.tmp 3],d9 zfN (d9 (d9 (j4 (u6 (o8 99 [zah]) zh3)) (l5 zaf zeP l7)) (d9 (j4 (j5 ziW (j5 zic (A9 zao (j5 zbW (j5 zdK zgs)))))) (d9 za2 zco))),none⟩
theorem aaO:IsF 100 f100:=isE [0,6,3,2]
def Ql:SC:=d9 zay (d9 zaF (d9 (o7 1 (d9 zim (d9 (j4 (j5 (G8 5 zah zaj) (A9 (I5 5 oL0) zdG))) zij))) zav))
def f103:SFn:=⟨false,[some 0,some 4],8,[.tmp 7],d9 zaC (d9 (d9 zbf (o7 0 (D9 Ql))) zbm),none⟩
theorem aaP:IsF 103 f103:=isE [0,8,7,9,1,5,16,4]
def f104:SFn:=⟨false,[some 0],3,[.tmp 2],d9 zbo (d9 (d9 (j4 (j5 (pIb iEq sEq zah zcb) (j5 zb1 (j5 (gP oL1 false (tq oL0)) (j5 (gP oL2 false zf4) (j5 zc2 (j5 zb1 (j5 zfC (u6 zhV (j5 (gP oL3 false zip) (j5 zbX (j5 zb1 (u6 (gE oL1 false (o8 177 [oL0])) (rcP zbR ziX j6)))))))))))))) (l5 zaf (d9 zbo o9) l7)) (d9 (j4 (u6 (o8 178 [zah,x9 (.func (.func 179) [] [])]) (j5 zcX zaw))) o9)),none⟩
theorem aaQ:IsF 104 f104:=isE [0,19,2]
def f105:SFn:=⟨false,[some 0],3,[.tmp 2],zb8,none⟩
theorem aaR:IsF 105 f105:=isE [0,1,2]
def f106:SFn:=⟨false,[some 0,some 1],3,[.tmp 2],d9 zbo (d9 (j4 (u6 (o8 180 [zah,zaf]) za7)) o9),none⟩
theorem aaS:IsF 106 f106:=isE [0,1,4]
def f107:SFn:=⟨false,[some 0],3,[.tmp 2],zb7,none⟩
theorem aaT:IsF 107 f107:=isE [0,1,2]
def f108:SFn:=⟨false,[some 0],8,[.tmp 7],d9 (j4 (rcL ziq ziX ziE)) (d9 (j4 (j5 zaR (A9 zao (u6 (o8 181 [oL0]) zaw)))) (d9 (d9 (j4 (j5 (pIb iEq sEq zan zhm) (j5 (gP oL0 false zbk) (j5 (gP oL1 false (pIb iGe sGe oL0 zac)) (j5 zet (j5 zeW (A9 za9 (j5 (gP oL2 true zio) (j5 (gP oL3 true zbk) (j5 (gP zbT true (pIb iNe sNe oL1 oL0)) (j5 (gP ziF false zdo) (rcP zfZ zai j6)))))))))))) (l5 zh8 zbO l7)) (d9 (d9 (j4 (j5 zaR (A9 zao (j5 zbt (j5 zdO (A9 za9 (j5 (gP oL2 true zcX) (j5 (gP oL3 true zak) (j5 zg2 (A9 zbI (j5 (gP oL2 false zff) (j5 zgP (j5 zdr (j5 zc0 (A9 zbI (j5 (gP oL2 false (pIb iNe sNe oL0 zad)) (j5 (gP oL3 false zak) (j5 zdO (A9 za9 (j5 (gP oL2 true zcY) (j5 (gP ziu false zik) (rcP zh2 zas j6)))))))))))))))))))))) zdZ) (d9 (d9 (j4 (j5 zaR (A9 zao (j5 zch (j5 zc0 (A9 zbI (j5 (gP oL2 false (pIb iEq sEq oL0 zaJ)) zfm))))))) (d9 (j4 (j5 (gP zaj true zbK) (A9 zgQ (u6 zgw (j5 zg4 (j5 zgY (j5 zeI (j5 (gP oL1 false zip) (j5 zet (j5 zhd zci)))))))))) (l5 zau zbO l7))) (d9 (j4 (j5 zbH (A9 zao (u6 (o8 106 [oL0,x9 (.func (.func 182) [] [])]) (j5 zip zaQ))))) o9))))),none⟩
theorem aaU:IsF 108 f108:=isE [0,1,3,20,43,4,67,2]
def f112:SFn:=⟨false,[some 0],3,[],d9 (j4 (j5 ziW (j5 zic (A9 zao (rcP zfx ziX j6))))) (l5 zaf (j4 (A9 (oF zah) (A9 (eU [(123,0),(241,2),(242,2)] oL0) zig))) (d9 (j4 (j5 ziW (j5 zic (A9 zao (rcP (pNe vD oL0 zah) ziV j6))))) (l5 zan (j4 (u6 Rx j6)) l7))),none⟩
theorem aaV:IsF 112 f112:=isE [0,6,19]
def f113:SFn:=⟨false,[some 0,some 2],14,[.tmp 13],d9 (j4 (rcL ziq ziX (rcP zcc zih j6))) (d9 (d9 (j4 (j5 zaR (A9 zao (u6 (o8 176 [oL0]) (rcP (pIb iLt sLt oL0 zan) zai j6))))) (l5 zh8 (d9 (j4 (A9 (I5 4 zaf) (u6 (o8 113 [oL0,zac]) (j5 (pIb fH fK zej oL0) (j5 zg1 zcz))))) o9) l7)) (d9 (d9 (j4 (j5 zaR (rcR zao zas j6))) (o7 0 (d9 (j4 (j5 (pIb iEq sEq zam zad) zaS)) (l5 zaj (d9 (j4 (j5 zbU (A9 zao (u6 (o8 187 [oL0]) zcz)))) o9) (d9 (j4 (j5 (pIb iEq sEq zam zar) zbw)) (l5 zau (d9 (j4 (j5 zbK (A9 zao zcz))) o9) (d9 (j4 (j5 (pIb iEq sEq zam zaJ) zaQ)) (l5 zaq (d9 (K6 0 (dcP zbH sNo (dcR zao 0 sNo (dcE (o8 73 [oL0]) ghF sNo (dcP zbK sNo (dcR zao 1 sNo (dcP (pIb fH fK oL0 zej) sNo (dcP (pIb fH fK oL0 oL3) sNo (dcP zg1 sNo zeX))))))))) o9) (d9 (j4 (j5 (pIb iEq sEq zam zbs) zbA)) (l5 zaA (d9 (j4 (j5 zbH (A9 zao (j5 zbl (A9 zir (u6 (o8 113 [oL0,zbi]) (j5 (pIb fH fK zfS oL0) zcz))))))) o9) (d9 (j4 (j5 (pIb iEq sEq zam za4) zb5)) (l5 zaG (d9 (j4 (j5 zbH (A9 zao (j5 zbl (A9 zir (u6 (o8 113 [oL0,zar]) (j5 (pIb fH fK (x9 (j3.str [110,111,116,32])) oL0) zcz))))))) o9) l7)))))))))))) (d9 (j4 (j5 zaR (A9 zao (u6 (o8 176 [oL0]) zbe)))) (d9 (j4 (rcP zfJ zif j6)) (d9 (d9 (j4 (rcP (pIb iEq sEq zaZ zaJ) zid j6)) (l5 za5 (j4 (j5 zcE (j5 zax zbS))) l7)) (d9 (K6 0 (dcP zbH sNo (dcR zao 0 sNo (dcP zbl sNo (dcR zir 0 sNo (dcP zcE sNo (dcE (o8 113 [oL1,oL0]) ghF sNo (dcE (o8 175 []) ghF sNo (dcP zbH sNo (dcR zao 2 sNo (dcP zed sNo (dcR zir 2 sNo (dcP zfJ sNo (dcP zax sNo (dcE (o8 113 [oL2,oL0]) ghF sNo (dcP (pIb fH fK ziF zfU) sNo (dcP zaR sNo (dcR zao 3 sNo (dcR (xu J5 1 zin false zfe oL0) 1 sNo (dcP zgX sNo (dcP (pIb fH fK oL0 zfU) sNo (dcP (pIb fH fK oL0 zix) sNo zeX)))))))))))))))))))))) o9)))))),none⟩
theorem aaW:IsF 113 f113:=isE [0,2,1,11,17,18,23,27,37,45,5,58,6,4]
def Qm:SC:=d9 (j4 (rcP (pIb iLt sLt zca zfX) (sL zaL) j6)) (d9 (l5 zeE l7 (lg 3)) (d9 (o7 4 (d9 (j4 (j5 (G8 1 zcw zca) (A9 zao (rcP zak zdv j6)))) (d9 (j4 (u6 (o8 72 [zb6,zam]) j6)) (j4 (u6 (o8 72 [zb6,zf0]) j6))))) (j4 (j5 (pIb fH fK zca zad) zcJ))))
def Qn:SC:=d9 zd5 (d9 zgm (d9 (o7 2 (d9 zdh (d9 (d9 (j4 (j5 zhC (j5 (pIb xg cu zgf zaq) (rcP zhn zih j6)))) (l5 zbL zcd l7)) (j4 (j5 za3 (j5 zhC (j5 zgZ zaQ))))))) zdp))
def f114:SFn:=⟨true,[some 0,some 4],21,[.tmp 20],d9 ze7 (d9 (d9 (j4 (rcP ziC ziX j6)) (o7 0 (d9 (j4 (j5 (pIb iEq sEq zaf zac) zaw)) (l5 zan (d9 ze7 o9) (d9 (j4 (j5 (pIb iEq sEq zaf zad) zaW)) (l5 zh8 (d9 (j4 (j5 zdQ (A9 zao zgM))) o9) l7)))))) (d9 zaC (d9 (d9 (j4 (j5 zgp (rcP zbu zh9 j6))) (l5 zaj (d9 (d9 (j4 (j5 zgp (j5 ziC (j5 zaE (j5 (pIb Rs cu zgf oL0) (rcP (pIb iGe sGe oL3 oL0) zib j6)))))) (l5 zau zcd l7)) (j4 (j5 za3 (j5 zgp (j5 ziC (j5 zaE (j5 (pIb Ig cu oL2 oL0) (j5 (pIb fH fK zbT oL0) zaQ)))))))) l7)) (d9 (d9 (j4 (rcP zaz zid zdV)) (o7 1 (D9 Qn))) (d9 (j4 (rcL (EB 123 [j3.nilPtr,Z]) zcv j6)) (d9 (j4 (u6 (o8 110 [zb6,zaq]) j6)) (d9 (j4 (j5 zdQ (A9 zao (u6 (o8 72 [zb6,oL0]) j6)))) (d9 (d9 (j4 (rcL (lSl 1 zah (some zad) none) zhc (rcP zio zcl zeQ))) (o7 3 (D9 Qm))) (d9 (j4 (u6 (o8 74 [zb6]) zgM)) o9))))))))),none⟩
theorem aaX:IsF 114 f114:=isP [0,12,13,15,1,22,29,5,41,40,42,39,7,49,8,65,64,66,63,10,4]
def f115:SFn:=⟨false,[some 0,some 2],4,[.cell 3 (some 2)],d9 (j4 (rcL ziq ziX (rcL zaN zai j6))) (d9 (j4 (j5 zc4 (j5 zbH (A9 zao (u6 (o8 76 [oL0,zan]) (u6 (o8 75 [oL3,oL0]) zgy)))))) o9),none⟩
theorem aaY:IsF 115 f115:=isE [0,2,1,4]
def f122:SFn:=⟨false,[some 0],2,[.tmp 1],d9 zgi (d9 (K6 0 (dcP zaz sNo (dcP zcH sNo (dcP zic sNo (dcR zao 0 sNo (dcP zaz sNo (dcP zcH sNo (dcP zdK sNo (dcR zao 0 sNo (dcP (G8 1 zbT oL0) sNo (dcR zao 0 sNo (dcP zak ziX bP)))))))))))) o9),none⟩
theorem aaZ:IsF 122 f122:=isE [0,2]
def f130:SFn:=⟨false,[some 1,some 0],4,[.cell 3 (some 2)],d9 (j4 (rcL ziq ziV (rcL zct zai j6))) (d9 (j4 (j5 (sZ (.func 201) [] [zan]) (j5 (E9 [zaa,j3.nilFunc] [(0,1,zaf),(1,1,oL0)]) zgy))) o9),none⟩
theorem ab0:IsF 130 f130:=isE [1,0,3,4]
def f140:SFn:=⟨false,[some 0],3,[.cell 2 (some 2)],d9 (j4 (rcL ziq ziX (rcL zct ziV j6))) (d9 (j4 (j5 (sZ (.func 203) [] [zaf]) (j5 (E9 [zaa,j3.nilFunc] [(0,1,zar),(1,1,oL0)]) zgU))) o9),none⟩
theorem ab1:IsF 140 f140:=isE [0,1,2]
def f159:SFn:=⟨false,[some 7,some 4,some 0],13,[.tmp 12],d9 (j4 (rcL ziq ziX ziQ)) (d9 (d9 (j4 (j5 zaR (rcR zao ziV j6))) (o7 0 (d9 (j4 (j5 (pIb iEq sEq zan zar) zaW)) (l5 zh8 (d9 (j4 (j5 zbK (A9 zao (u6 (o8 85 [zam,oL0]) (rcP zfx zh9 j6))))) (l5 zaj zeh l7)) (d9 (j4 (j5 (pIb iEq sEq zan zaJ) zbw)) (l5 zau (d9 (K6 1 (dcP za3 sNo (dcP zcH sNo (dcP zic sNo (dcR zao 0 sNo (dcP zbK sNo (dcR zao 0 sNo (dcR (xu eqStr 1 zgH true oL2 oL0) 0 sNo (dcP zak sNo (dcP zb9 sNo (dcL zct 0 zaI (dcE (C9 2 oL0 oL1) ghF sNo (dcP (pExt oL3 1) sNo (dcP zak zaL bP)))))))))))))) (d9 (d9 (j4 (rcP (JX zaA) zaD j6)) (l5 zaG zeh l7)) (d9 (j4 (j5 zbH (A9 zao (j5 zio (j5 (D8 0 zaZ) (A9 zao (rcP zhj zid j6))))))) (l5 za5 (d9 (j4 ze1) o9) l7)))) l7)))))) (d9 (j4 (j5 zbH (A9 zao (u6 (o8 84 [zaq,zam,oL0]) zbS)))) o9)),none⟩
theorem ab2:IsF 159 f159:=isE [2,5,10,11,1,17,18,0,8,31,7,37,6]
def f166:SFn:=⟨false,[some 0,some 1],3,[],d9 (d9 (j4 (A9 zhz (A9 (iF zaf) (rcP (pIb iEq sEq oL1 oL0) ziV j6)))) (l5 zan (j4 (j5 (E9 [] []) (j5 (oD 243 oL0) ziB))) l7)) (j4 (A9 zhz (j5 zax (u6 (C9 1 zah oL0) j6)))),none⟩
theorem ab3:IsF 166 f166:=isE [0,1,4]
def f175:SFn:=⟨false,[],1,[.tmp 0],d9 zdk (d9 (j4 (eX iQ (u6 (y5 J5 1 oL0 zbi (x9 (j3.str [42]))) (u6 (y5 J5 1 oL1 zb0 (x9 (j3.str [47]))) (u6 (y5 J5 1 oL2 zcN (x9 (j3.str [37]))) (u6 (y5 J5 1 oL3 zfq (x9 (j3.str [43]))) (u6 (y5 J5 1 zbT zby zfS) (u6 (y5 J5 1 zcI ze8 (x9 (j3.str [60]))) (u6 (y5 J5 1 zix zcj (x9 (j3.str [60,61]))) (u6 (y5 J5 1 ziu ze9 (x9 (j3.str [62]))) (u6 (y5 J5 1 ziF zfa (x9 (j3.str [62,61]))) (u6 (y5 J5 1 zeT zfb (x9 (j3.str [61,61]))) (u6 (y5 J5 1 zfe zcm (x9 (j3.str [33,61]))) (u6 (y5 J5 1 zgO zfc zh4) (u6 (y5 J5 1 (dB 12) zdm (x9 (j3.str [111,114]))) (rcP (J6 (dB 13)) sH j6)))))))))))))))) o9),none⟩
theorem ab4:IsF 175 f175:=isE [0]
def f176:SFn:=⟨false,[some 0],10,[.tmp 9],d9 zbg (d9 (d9 zew (o7 0 (d9 (j4 (j5 (pIb iEq sEq zaf zdm) zaw)) (l5 zan zcx (d9 (j4 (j5 (pIb iEq sEq zaf zfc) zaW)) (l5 zh8 zcy (d9 (j4 (j5 (pIb iEq sEq zaf za4) zbd)) (l5 zam (d9 (j4 (rcP zbY zaD j6)) o9) (d9 (d9 (j4 (j5 (pIb iEq sEq zaf ze8) zaS)) (l5 zaj l7 (d9 (j4 (j5 (pIb iEq sEq zaf zcj) zaS)) (l5 zaj l7 (d9 (j4 (j5 (pIb iEq sEq zaf ze9) zaS)) (l5 zaj l7 (d9 (j4 (j5 (pIb iEq sEq zaf zfa) zaS)) (l5 zaj l7 (d9 (j4 (j5 (pIb iEq sEq zaf zfb) zaS)) (l5 zaj l7 (j4 (j5 (pIb iEq sEq zaf zcm) zaS)))))))))))) (l5 zaj (d9 (j4 (rcP zcQ zaD j6)) o9) (d9 (d9 (j4 (j5 (pIb iEq sEq zaf zfq) zbw)) (l5 zau l7 (j4 (j5 (pIb iEq sEq zaf zby) zbw)))) (l5 zau (d9 (j4 (rcP (J6 zbs) zaD j6)) o9) (d9 (d9 (j4 (j5 zfu zaQ)) (l5 zaq l7 (d9 (j4 (j5 (pIb iEq sEq zaf zb0) zaQ)) (l5 zaq l7 (j4 (j5 (pIb iEq sEq zaf zcN) zaQ)))))) (l5 zaq (d9 (j4 (rcP zcR zaD j6)) o9) (d9 (j4 (j5 (pIb iEq sEq zaf zbs) zbA)) (l5 zaA (d9 (j4 (rcP zgT zaD j6)) o9) l7)))))))))))))))) (d9 (j4 (rcP zgR zaD j6)) o9)),none⟩
theorem ab5:IsF 176 f176:=isE [0,3,4,6,8,10,17,20,24,2]
def f177:SFn:=⟨false,[some 0],2,[.tmp 1],d9 za6 (d9 (j4 (eX (F6 1 8 [zin] [(0,1,zhS),(1,1,x9 (j3.str [105,102])),(2,1,zhu),(3,1,zhh),(4,1,zhi),(5,1,zh4),(6,1,x9 (j3.str [111,114])),(7,1,zhR)]) (u6 (o8 227 [oL0,zah]) zia))) o9),none⟩
theorem ab6:IsF 177 f177:=isE [0,2]
def f178:SFn:=⟨false,[some 0,some 1],3,[.tmp 2],d9 zcf (d9 (j4 (u6 (o8 228 [zah,zaf,zbM]) zaw)) o9),none⟩
theorem ab7:IsF 178 f178:=isE [0,1,4]
def f179:SFn:=⟨false,[some 0],2,[.tmp 1],d9 za6 (d9 (j4 (j5 (pIb iGt sGt zah (x9 (j3.int .i32 (Int.ofNat 127)))) (j5 zb1 (j5 (gP oL1 false (kI .u8 oL0)) (u6 zhV (j5 (gP oL3 false zip) (j5 zh1 (j5 zbj (j5 (gP oL1 true (kI .u8 oL0)) (u6 (gE oL2 true (o8 47 [oL0])) (j5 (gP oL3 true zip) (j5 (gP zeT false zcP) (j5 (Z8 zfe zbM oL0) zia))))))))))))) o9),none⟩
theorem ab8:IsF 179 f179:=isE [0,2]
def Qo:SC:=d9 zay (d9 zaF (d9 (o7 1 (d9 zim (d9 (j4 (j5 (G8 4 zah zaj) (A9 zir zdG))) zij))) zav))
def f180:SFn:=⟨false,[some 0,some 4],8,[.tmp 7],d9 zaC (d9 (d9 zbf (o7 0 (D9 Qo))) zbm),none⟩
theorem ab9:IsF 180 f180:=isE [0,8,7,9,1,5,16,4]
def f181:SFn:=⟨false,[some 0],6,[.tmp 5],d9 zeZ (d9 (o7 0 (d9 (j4 (j5 zfH zia)) (l5 zaf (d9 (j4 (rcP za0 zh9 j6)) o9) (d9 (j4 (j5 (pIb iEq sEq zah zad) (j5 zb1 (j5 (gP oL1 false zch) (j5 zbR zaw))))) (l5 zan (d9 zeZ o9) (d9 (j4 (j5 (pIb iEq sEq zah zbs) (j5 zb1 (j5 (gP oL1 false (pIb iEq sEq oL0 za4)) (j5 zbR zaW))))) (l5 zh8 (d9 zeV o9) (d9 (j4 (j5 (pIb iGe sGe zah zbi) (j5 zbj (j5 (gP oL1 true (pIb iLe sLe oL0 zdm)) (j5 zil zbd))))) (l5 zam (d9 zeU o9) l7))))))))) (d9 (j4 (rcP (J6 zhm) zh9 j6)) o9)),none⟩
theorem abb:IsF 181 f181:=isE [0,3,6,13,20,2]
def f182:SFn:=⟨false,[some 0],3,[.tmp 2],zb7,none⟩
theorem abd:IsF 182 f182:=isE [0,1,2]
def f187:SFn:=⟨true,[some 0],2,[.tmp 1],d9 zf5 (d9 (j4 (u6 (o8 230 [zah]) zia)) o9),none⟩
theorem abe:IsF 187 f187:=isP [0,2]
def f188:SFn:=⟨false,[some 0,some 1],3,[.tmp 2],d9 zbo (d9 (j4 (u6 zht za7)) o9),none⟩
theorem abf:IsF 188 f188:=isE [0,1,4]
def f190:SFn:=⟨false,[some 1,some 0,some 2],4,[.tmp 3],zbB,none⟩
theorem abg:IsF 190 f190:=isE [1,0,2,6]
def f196:SFn:=⟨false,[some 1,some 0],14,[.cell 3 (some 32),.tmp 12,.tmp 13],d9 (j4 (rcL zal zai ziA)) (d9 (d9 (j4 (j5 ziC (j5 zcg (j5 zdi (j5 (gP oL1 false (pIb iGt sGt oL0 (x9 (j3.int .i64 (Int.ofNat 200))))) zgJ))))) (l5 zan zag l7)) (d9 (j4 (j5 zdQ (A9 zao (u6 (o8 237 [oL0,zfU]) zbd)))) (d9 (d9 (j4 (j5 (Ei zam) (rcP zgc zh9 j6))) (l5 zaj zag l7)) (d9 (j4 (j5 (G8 1 zam zar) (A9 zao zdq))) (d9 (d9 (j4 (j5 (pNe cB zau zc7) (j5 zdt (j5 (gP oL1 false zcX) (j5 zbR (j5 zdt (j5 zhD (j5 zdw (j5 (gP oL3 false (pIb iGe sGe oL2 oL0)) (rcP zbX zaL j6)))))))))) (l5 zaA zag l7)) (d9 (j4 (j5 zc1 (eX (lSl 1 zah (some zad) (some oL0)) (u6 (o8 114 [oL0,zcb]) (u6 (o8 238 [oL0]) (j5 zb9 (j5 zcD (rcL zal zaI (u6 (C9 32 oL0 oL2) (rcP zgF zaD j6)))))))))) (d9 (d9 (K6 1 (dcP zda sNo (dcP zcY sNo (dcP zak sNo (dcP zdi sNo (dcR (gRd oL1 false zhq) 0 sNo (dcE (gE oL2 false (o8 240 [oL1,oL0])) ghF sNo (dcP (gP oL3 false zaz) sNo (dcP (gP zbT false za3) sNo (dcP (gP zcI false zax) sNo (dcL (gLk zix false (lSl 1 oL2 none (some oL0))) 0 sNo (dcE (gE ziu false (o8 239 [zbT,oL0])) ghF sNo (dcP (gP ziF false zip) sNo (dcP zfZ zid bP)))))))))))))) (l5 za5 zag l7)) (d9 (j4 (A9 zhq (j5 zc1 (u6 (C9 32 zh8 oL1) (rcP zbQ zif (rcP zer zih j6)))))) o9)))))))),none⟩
theorem abh:IsF 196 f196:=isE [1,0,18,4,7,26,9,8,46,11,10,69,5,6]
def f200:SFn:=⟨false,[some 0],3,[.tmp 2],d9 zcS (d9 (j4 (u6 (o8 244 [zah]) zia)) (d9 (j4 (u6 (o8 245 [zaf,x9 (.func (.func 246) [] [])]) j6)) (d9 (j4 (u6 (o8 248 [zaf,x9 (.func (.func 249) [] [])]) zaw)) o9))),none⟩
theorem abj:IsF 200 f200:=isE [0,3,2]
def f227:SFn:=⟨false,[some 0,some 1],3,[.tmp 2],d9 zbo (d9 (j4 (u6 (o8 292 [zah,zaf]) za7)) o9),none⟩
theorem abk:IsF 227 f227:=isE [0,1,4]
def Qp:SC:=d9 (j4 (rcE (tY zaf) zai zhE)) (d9 zcs (o7 1 (d9 (j4 (j5 (pExt zh8 1) (j5 (pExt zh8 2) (rcP zbQ zaL zef)))) (d9 (j4 (u6 (U1 zam [zaj]) (rcP (pEq oz oL0 zau) zat j6))) (l5 zaq (d9 (j4 (rcP zfL zaD j6)) o9) l7)))))
def f228:SFn:=⟨false,[some 0,some 4,some 6],10,[.tmp 9],d9 zbg (d9 (d9 (j4 (rcE (qA zah) ziX j6)) (o7 0 (D9 Qp))) zcu),none⟩
theorem abl:IsF 228 f228:=isE [0,10,12,11,1,8,2,19,7,6]
def f230:SFn:=⟨false,[some 0],2,[.tmp 1],d9 zf5 (d9 (j4 (u6 (o8 293 [zah,zby]) zia)) o9),none⟩
theorem abm:IsF 230 f230:=isE [0,2]
def Qq:SC:=d9 zay (d9 zaF (d9 (o7 1 (d9 zim (d9 (j4 (j5 (G8 1 zah zaj) (A9 zao zdG))) zij))) zav))
def f231:SFn:=⟨false,[some 0,some 4],8,[.tmp 7],d9 zaC (d9 (d9 zbf (o7 0 (D9 Qq))) zbm),none⟩
theorem abn:IsF 231 f231:=isE [0,8,7,9,1,5,16,4]
def f235:SFn:=⟨false,[some 0],3,[.cell 2 (some 2)],d9 (j4 (rcL ziq ziX (rcL zaN ziV j6))) (d9 (j4 (j5 zaR (A9 zao (j5 zbU (A9 zao (j5 (E9 [zaa,zaa] [(0,1,oL2),(1,1,oL0)]) zgU)))))) o9),none⟩
theorem abo:IsF 235 f235:=isE [0,1,2]
def f242:SFn:=⟨false,[some 0],3,[.cell 2 (some 32)],d9 (j4 (rcL ziq ziX (rcL zal ziV j6))) (d9 (K6 0 (dcP zdC sNo (dcP (D8 2 oL0) sNo (dcR zao 0 sNo (dcE zh5 ghF sNo (dcP zdC sNo (dcP (D8 3 oL0) sNo (dcR zao 1 sNo (dcE zh5 (ghP zdC (ghP (D8 2 oL0) (ghD (ghP zdC (ghP (D8 3 oL0) (ghD Iw)))))) sNo (dcP zdC sNo (dcP (D8 2 oL0) sNo (dcE (C9 1 oL0 zix) ghF sNo (dcP zdC sNo (dcP (D8 3 oL0) sNo (dcE (C9 1 oL0 zcI) ghF sNo bP))))))))))))))) (d9 (j4 (j5 (D8 28 zaf) (j5 zdK (A9 zao (u6 zh5 (j5 (D8 28 zaf) zgj)))))) (d9 (j4 (A9 (I5 32 zaf) (u6 (C9 32 zan oL0) j6))) o9))),none⟩
theorem abp:IsF 242 f242:=isE [0,1,2]
def f244:SFn:=⟨false,[some 0],3,[.tmp 2],d9 zcS (d9 zcT (d9 (j4 (eX (F6 32 0 zab []) (u6 (tX 32 304 oL0 zah) zaw))) o9)),none⟩
theorem abq:IsF 244 f244:=isE [0,4,2]
def f245:SFn:=⟨false,[some 0,some 1],2,[],j4 (j5 ziC (u6 (o8 304 [zah,oL0,zaf]) j6)),none⟩
theorem abr:IsF 245 f245:=isE [0,1]
def Qr:SC:=d9 (d9 (j4 (j5 (Ei zaq) (rcP (pIb iLt sLt zau oL0) zaL j6))) (l5 zaA l7 ziP)) (d9 (o7 3 (d9 (K6 0 (dcP zaM sNo (dcP za3 sNo (dcP zbv sNo (dcP zgu sNo (dcR zep 0 sNo (dcP za3 sNo (dcP zbv sNo (dcP zaE sNo (dcP zfy sNo (dcR zep 0 sNo (dcE zf1 ghF sNo (dcP zip zaD bP))))))))))))) (l5 zaG (d9 (j4 (j5 (G8 32 zaq zau) (A9 zep (j5 (G8 32 zah zan) (u6 (C9 32 oL0 oL1) j6))))) zbP) l7))) (j4 (j5 zbv (j5 zax zbw))))
def Qs:SC:=d9 (d9 (j4 (j5 ziC (rcP (pIb iLt sLt zan oL0) zai j6))) zaF) (d9 (o7 1 (d9 (K6 0 (dcP zaM sNo (dcP zaz sNo (dcP zbk sNo (dcP zgu sNo (dcR zep 0 sNo (dcP zaz sNo (dcP zbk sNo (dcP zaE sNo (dcP zfy sNo (dcR zep 0 sNo (dcE zf1 Iw zh9 bP)))))))))))) (l5 zaj (d9 (j4 (eX zgC zaQ)) (d9 (d9 (j4 (rcP zaV zib j6)) (o7 2 (D9 Qr))) (d9 (j4 (eX zgC (u6 (Bt zab oL0) j6))) (d9 (j4 (eX (lSl 32 zah none (some zan)) zbe)) o9)))) l7))) zbP)
def f248:SFn:=⟨false,[some 0,some 4],11,[.tmp 10],d9 zd8 (d9 (d9 (j4 (j5 ziC (rcP (pIb iLt sLt oL0 zar) ziX j6))) (l5 zaf zfg l7)) (d9 (d9 (j4 (rcP zaV ziV j6)) (o7 0 (D9 Qs))) zfg)),none⟩
theorem abt:IsF 248 f248:=isE [0,10,5,15,1,28,7,6,35,49,4]
def f263:SFn:=⟨false,[some 0,some 1],10,[.tmp 9],d9 zbg (d9 (j4 (u6 (o8 317 [zah]) zaw)) (d9 (j4 (u6 (o8 317 [zaf]) zbd)) (d9 (d9 zce (l5 zh8 (d9 (d9 zdF (l5 zaj zcx l7)) zcu) l7)) (d9 (d9 zfK (l5 zau zcy l7)) (d9 (d9 (j4 (rcP zhb zat j6)) (l5 zaq zcu l7)) (d9 (d9 (j4 (rcP (pIb iGt sGt zah zaf) zaL j6)) (l5 zaA zcy l7)) zcx)))))),none⟩
theorem abu:IsF 263 f263:=isE [0,1,5,11,6,12,13,16,19,4]
def f275:SFn:=⟨true,[some 0],14,[.cell 3 none],d9 (j4 (rcL ziq ziX (rcL (bO [zaa]) zai j6))) (d9 (d9 (j4 (j5 zaR (A9 zfw (u6 (o8 322 [oL0,zac,x9 (j3.int .i64 (Int.ofNat 1000000))]) zfY)))) (l5 zan (d9 (j4 (u6 (C9 1 zh8 zad) j6)) o9) l7)) (d9 (d9 (j4 (j5 zbK (A9 zao (j5 zio (j5 zf6 (j5 (gP oL0 false zbH) (A9 zbI (j5 zdw (j5 zfd (j5 zbX (j5 zg5 (A9 zbI (j5 zdw (j5 (gP oL3 false zf6) (j5 zbX (j5 (gP oL0 false (D8 5 zaf)) (A9 zbI (j5 zdw (j5 zfd (j5 zbX (j5 (gP oL0 false (D8 6 zaf)) (A9 zbI (j5 zdw (j5 (gP oL3 false (pIb iGt sGt oL0 zby)) zf2)))))))))))))))))))))))) (l5 zam zd7 l7)) (d9 (d9 (j4 (A9 zeq (u6 (o8 323 [oL0]) zaS))) (d9 (j4 (rcP (pIb iNe sNe zaj zac) zib j6)) (l5 zau (d9 (j4 (u6 (C9 1 zh8 zaj) j6)) o9) l7))) (d9 (j4 (A9 zeq (u6 (o8 324 [oL0]) zaQ))) (d9 (d9 (j4 (A9 zeq (rcE (o8 325 [oL0,zaq]) zaL j6))) (o7 0 (zO zaA [some 9] (.reg [⟨.p (.mov (.slot 9)),some 10,none⟩]) (.block 1 (.seq (.reg [⟨.p (.mov (.slot 10)),none,none⟩,⟨.p (.ib .neq (.loc 0) (.con zaa)),some 11,none⟩]) (.cond (.slot 11) (.seq (.reg [⟨.p (.mov (.slot 10)),none,none⟩,⟨.e (.store 1 (.slot 3) (.loc 0)),none,none⟩]) .ret) .skip)))))) (d9 (j4 (A9 zeq (u6 (o8 326 [oL0]) zbS))) (d9 (d9 (j4 (j5 (Ei zbq) (j5 (pIb iGt sGt oL0 (x9 (j3.int .i64 (Int.ofNat 59)))) (j5 (gP oL0 false zbK) (A9 zbI (j5 zdw (j5 (gP oL3 false zdS) (j5 (gP zbT false zcE) (j5 (gP zcI false zio) (j5 (gP zix false zbK) (A9 (gRd ziu false zao) (j5 (gP ziF false zio) (j5 (gP zeT false (pIb xg cu oL3 oL0)) (j5 (gP zfe false zdS) (j5 (gP zgO false (pIb fH fK ziu oL0)) (j5 (gP (dB 12) false (D8 5 zaf)) (A9 (gRd (dB 13) false zao) (j5 (gP (dB 14) false zio) (j5 (gP (dB 15) false zdS) (j5 (gP (dB 16) false (pIb fH fK zbT oL0)) (j5 (gP (dB 17) false (pIb iGt sGt oL0 (x9 (j3.int .i64 (Int.ofNat 300))))) (rcP (Z8 (dB 18) zbM oL0) zih j6)))))))))))))))))))))) (l5 zbL zd7 l7)) (d9 (j4 (u6 (C9 1 zh8 zac) j6)) o9)))))))),none⟩
theorem JG:IsF 275 f275:=isP [0,1,10,2,38,3,42,4,48,49,5,51,6,77]
end
end Go.Proofs.YteecnooaopfkeaaGreatDoor.TT

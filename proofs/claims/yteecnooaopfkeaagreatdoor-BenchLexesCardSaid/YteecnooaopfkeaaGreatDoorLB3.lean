/- The tables: each function of the program is the code that stands here; no condition. -/
import Derived.Test.YteecnooaopfkeaaGreatDoorLB0
import Derived.KernelRfl
import Derived.Test.YteecnooaopfkeaaGreatDoorProg
set_option linter.unusedSimpArgs false
set_option linter.unusedVariables false
namespace Go.Proofs.YteecnooaopfkeaaGreatDoor.TT
open Go Go.AM
set_option maxRecDepth 100000
noncomputable section
def f284:SFn:=⟨false,[some 0],3,[.tmp 2],d9 zbp (d9 (j4 (j5 zaR (A9 zao (j5 zbt (j5 zc0 (A9 zbI (j5 (gP oL2 false (pIb iEq sEq oL0 zbs)) (j5 (gP oL3 false zak) (j5 zeW (A9 za9 (j5 zfv (j5 (gP oL3 true zic) (A9 zeu (j5 (gP zcI true zbt) (j5 (gP zfe false zeG) (j5 zhW zaw)))))))))))))))) o9),none⟩
theorem abv:IsF 284 f284:=isE [0,1,2]
def f286:SFn:=⟨false,[some 1,some 0],4,[.tmp 3],d9 (j4 (rcL ziq ziV zbC)) (d9 (K6 0 (dcP zaK sNo (dcE (o8 351 [oL0]) ghF sNo (dcR (I5 4 zan) 1 sNo (dcE (o8 350 [oL1,oL0]) ghF sNo (dcP zak zai bP)))))) o9),none⟩
theorem abw:IsF 286 f286:=isE [1,0,3,4]
def Qt:SC:=zaP
def f292:SFn:=⟨false,[some 0,some 4],8,[.tmp 7],d9 zaC (d9 (d9 zbf (o7 0 (D9 Qt))) zbm),none⟩
theorem abx:IsF 292 f292:=isE [0,8,7,9,1,5,16,4]
def f293:SFn:=⟨false,[some 2,some 0],11,[.tmp 10],d9 (j4 (rcP zcc zaI j6)) (d9 (d9 (j4 (rcP (pIb iEq sEq zah zby) ziX j6)) (l5 zaf (d9 (d9 (j4 (j5 (pIb iLe sLe zac zan) (j5 zfk (j5 (gP oL1 true (pIb iLt sLt oL0 ze5)) (rcP zil zai j6))))) (l5 zh8 (d9 (j4 (u6 (o8 352 [zan]) zbe)) o9) l7)) (d9 (j4 (rcL (bO [zaU,zaU,zaU,zaU,zaU,zaU,zaU,zaU,zaU,zaU,zaU,zaU,zaU,zaU,zaU,zaU,zaU,zaU,zaU,zaU,zaU,zaU,zaU,zaU]) zat j6)) (d9 (j4 (j5 (kI .u64 zan) zaS)) (d9 (d9 (j4 (rcP zdy zas j6)) (l5 zam (j4 (j5 ziY (j5 (KM oL0) zaS))) l7)) (d9 (j4 (u6 (o8 353 [zaj]) zbw)) (d9 (j4 (j5 zdd (j5 zel (u6 (o8 354 [oL0,zaj]) j6)))) (d9 (d9 (j4 (rcP zdy zaL j6)) (l5 zaA (d9 (j4 (j5 (kX 1 24 zaq zac) (u6 (C9 1 oL0 zfo) j6))) (d9 (j4 (j5 zdd (j5 (Bo 1 24 zaq none (some oL0)) zfE))) o9)) l7)) (d9 (j4 (j5 zdd (j5 zel zfE))) o9)))))))) l7)) (d9 (j4 (j5 (kI .u64 zan) (j5 zdy (u6 (o8 355 [x9 Z,oL1,zah,oL0,zie]) (j5 zb9 (j5 zcD zb5)))))) (d9 (j4 (rcP zda zaI j6)) o9))),none⟩
theorem aby:IsF 293 f293:=isE [1,11,0,17,23,6,7,5,34,9,4]
def Qu:SC:=d9 zay (d9 zaF (d9 (o7 1 (d9 (j4 (j5 zgD zf7)) (j4 (j5 ziY (u6 (o8 187 [zau]) (j5 (pIb fH fK zfU oL0) (j5 (pIb fH fK oL2 oL0) zaS))))))) zav))
def f301:SFn:=⟨false,[some 5,some 0],8,[.tmp 7],d9 (j4 (rcP zcc zat j6)) (d9 (d9 zaB (o7 0 (D9 Qu))) zi0),none⟩
theorem abz:IsF 301 f301:=isE [1,9,8,10,7,0,6,4]
def f303:SFn:=⟨false,[some 0],3,[.tmp 2],d9 zcS (d9 zcT (d9 (j4 (eX (F6 1 0 [zaa] []) (u6 (tX 1 8 oL0 zah) zaw))) o9)),none⟩
theorem abA:IsF 303 f303:=isE [0,4,2]
def Qv:SC:=d9 (d9 (j4 (rcP zgN zaL j6)) (l5 zaA l7 (lg 4))) (o7 5 (d9 (j4 (j5 zgE (u6 (o8 381 [zam,zaj,oL0,zaf,zau]) j6))) (d9 zim (j4 (j5 zaK (j5 zfz (j5 zgZ zia)))))))
def Qw:SC:=d9 (d9 (j4 (rcP (pIb iLt sLt zah zan) zat j6)) zc5) (o7 3 (d9 (j4 (j5 zfz (rcP zae zh9 zdU))) (d9 (o7 4 (D9 Qv)) (d9 (d9 (j4 (j5 zgE zb5)) (d9 (j4 (rcP (pIb iLt sLt zaG zan) zaI j6)) (l5 zaZ (j4 (u6 (o8 381 [zam,zaj,zaG,zan,zau]) j6)) l7))) (j4 (j5 zaz (j5 (pIb Ig cu oL0 zar) ziv)))))))
def Qx:SC:=d9 (d9 (j4 (rcP zgN zai j6)) zaF) (o7 1 (d9 (j4 (u6 (o8 380 [zam,zaj,zaf,zau]) j6)) (d9 zim (j4 (j5 zaK (j5 (pIb fH fK oL0 zah) zia))))))
def f304:SFn:=⟨false,[some 4,some 2,some 6],11,[],d9 (j4 (rcP (J6 zho) sH j6)) (d9 (j4 (rcP zae zh9 zd6)) (d9 (o7 0 (D9 Qx)) (d9 (j4 (u6 (o8 380 [zam,zaj,zan,zau]) j6)) (o7 2 (D9 Qw))))),none⟩
theorem abB:IsF 304 f304:=isE [6,8,1,13,0,7,2,30,35,9,54]
def f316:SFn:=⟨false,[some 0],2,[.tmp 1],d9 (j4 ziK) (d9 (l5 zie (d9 (j4 (j5 (kI .u32 zah) (u6 (o8 404 [oL0]) zia))) o9) l7) (d9 (j4 (u6 (o8 405 [zah]) zia)) o9)),none⟩
theorem abC:IsF 316 f316:=isE [0,2]
def f317:SFn:=⟨false,[some 0],2,[.tmp 1],d9 za6 (d9 (j4 (j5 (pIb iNe sNe zah zah) zia)) o9),none⟩
theorem abD:IsF 317 f317:=isE [0,2]
def f322:SFn:=⟨false,[some 0,some 1,some 3],5,[.tmp 4],d9 (j4 (rcL ziq ziV zdH)) (d9 (j4 (j5 zdM (A9 zao (j5 (pIb iLe sLe zaf oL0) (j5 (gP oL0 true zdM) (A9 za9 (j5 (gP oL2 true zgz) (A9 zdc (j5 (gP zbT true (pIb iLe sLe oL2 oL0)) (j5 zdo (j5 (gP oL0 true zgz) (A9 za9 (j5 (gP oL2 true zaT) (j5 (gP oL3 true (pIb iLe sLe oL1 oL0)) (j5 zcP zbd))))))))))))))) o9),none⟩
theorem abE:IsF 322 f322:=isE [0,1,3,2,6]
def Qy:SC:=d9 (j4 (rcP (pIb iLt sLt zaq zaA) zaD j6)) (d9 (l5 zaG l7 ziP) (d9 (o7 3 (d9 (j4 (j5 (G8 1 zaZ zaq) (A9 zao zbS))) (j4 (j5 zcF (j5 zey (A9 zao (j5 (E9 [zaa,zaa] [(0,1,oL0),(1,1,zbq)]) (eX zbx (u6 (tX 2 16 zbT oL0) zdP))))))))) (j4 (j5 zc1 zaQ))))
def Qz:SC:=d9 zcO (d9 zcC (d9 (o7 1 (d9 (j4 (j5 (G8 8 zaj zan) (A9 (I5 8 oL0) (rcL (bO [zaa,zaa,zaa,zaa,zaa,zaa,zaa,zaa]) zib (u6 (C9 8 oL0 oL1) j6))))) (d9 (j4 (A9 zeq (A9 (I5 8 zau) (rcE (o8 433 [oL1,oL0]) zaI (rcP zio zaL (rcP zae zat j6)))))) (o7 2 (D9 Qy))))) zb4))
def f326:SFn:=⟨true,[some 0],14,[.tmp 13],d9 (j4 (rcL ziq ziX (rcP zck zih j6))) (d9 (j4 (rcP zck zid j6)) (d9 (d9 (j4 (j5 zbK zdA)) (o7 0 (D9 Qz))) (d9 (j4 (rcP zcF zih j6)) o9))),none⟩
theorem abF:IsF 326 f326:=isP [0,1,11,10,12,9,5,19,18,20,17,3,7,2]
def f341:SFn:=⟨false,[some 0,some 1],3,[.tmp 2],d9 zbo (d9 (j4 (u6 (o8 386 [zah,zaf]) za7)) o9),none⟩
theorem abG:IsF 341 f341:=isE [0,1,4]
def f344:SFn:=⟨false,[some 0],2,[.tmp 1],d9 za6 (d9 (j4 (j5 (pIb iGe sGe zah (x9 (j3.int .i64 (Int.negSucc 9007199254740991)))) (j5 zbj (j5 zeA zis)))) o9),none⟩
theorem abH:IsF 344 f344:=isE [0,2]
def ahE:SFn:=⟨false,[some 0,some 1],16,[.tmp 15],d9 (j4 (rcL ziq zib (rcL (Ny zaf) ziV zeQ))) (d9 (d9 (j4 (j5 zdM (rcR zao zai j6))) (o7 0 (d9 (j4 (j5 (pIb iEq sEq zh8 zad) zbd)) (l5 zam (d9 (j4 (j5 zgz (A9 zao zcJ))) o9) (d9 (j4 (j5 (pIb iEq sEq zh8 zar) zaS)) (l5 zaj (d9 (j4 (j5 zey (A9 zao (j5 (D8 2 zan) (A9 zao (u6 (U1 oL2 [oL0]) zcJ)))))) o9) (d9 (j4 (j5 (pIb iEq sEq zh8 zaJ) zaQ)) (l5 zaq (d9 (j4 (j5 zhT (A9 zao (A9 (I5 4 zan) (u6 (U1 oL1 [oL0]) zcJ))))) o9) (d9 (j4 (j5 (pIb iEq sEq zh8 zbs) zbA)) (l5 zaA (d9 (K6 0 (dcR zcM 0 sNo (dcP zdj sNo (dcR zao 0 sNo (dcP zbl sNo (dcR zir 0 sNo (dcE zd4 ghF sNo (dcP (KM oL0) sNo zdz)))))))) o9) (d9 (j4 (j5 (pIb iEq sEq zh8 za4) zb5)) (l5 zaG (d9 (K6 0 (dcR zcM 0 sNo (dcP zdj sNo (dcR zao 0 sNo (dcP zbl sNo (dcR zir 0 sNo (dcE zd4 ghF sNo (dcP zcg sNo zeS)))))))) o9) (d9 (d9 (j4 (j5 (pIb iEq sEq zh8 zfc) zbe)) (l5 zaZ l7 (j4 (j5 (pIb iEq sEq zh8 zdm) zbe)))) (l5 zaZ (d9 (K6 0 (dcR zcM 0 sNo (dcP zdj sNo (dcR zao 0 sNo (dcP zbl sNo (dcR zir 0 sNo (dcE zd4 ghF sNo (dcP zcY sNo (dcP zak zid bP))))))))) (d9 (d9 (j4 (j5 zdM (A9 zao (j5 (pIb iEq sEq oL0 zdm) (rcP (pEq oz za5 oL0) zif j6))))) (l5 zbq (d9 (j4 (u6 (o8 153 [za5]) zcJ)) o9) l7)) (d9 (K6 0 (dcR zcM 0 sNo (dcP zdj sNo (dcR zao 0 sNo (dcP zed sNo (dcR zir 0 sNo (dcE zd4 ghF sNo (dcP zcY sNo zeS)))))))) o9))) l7)))))))))))))) (d9 (K6 0 (dcR zcM 0 sNo (dcP zdj sNo (dcR zao 0 sNo (dcP zbl sNo (dcR zir 0 sNo (dcE zd4 ghF sNo zeX))))))) (d9 (K6 0 (dcR zcM 0 sNo (dcP zdj sNo (dcR zao 0 sNo (dcP zed sNo (dcR zir 0 sNo (dcE zd4 ghF sNo zha))))))) (d9 (K6 0 (dcE (o8 449 []) ghF sNo (dcP zdM sNo (dcR zao 1 sNo (dcR (xu J5 1 j3.nilFunc false oL2 oL0) 0 sNo (dcP (J6 zbL) sNo (dcP zhF sNo (dcE (U1 oL2 [oL1,oL0]) ghF sNo (dcR zcM 2 sNo (dcP (pExt oL1 0) sNo (dcP (pExt oL2 1) sNo (dcE (o8 448 [oL2,oL1,oL0]) ghF sNo zdz)))))))))))) o9)))),none⟩
theorem abI:IsF 350 ahE:=isE [0,1,3,9,10,14,2,21,27,36,46,5,60,6,7,4]
def ahF:SFn:=⟨false,[some 0],4,[.cell 3 (some 3)],d9 (j4 (rcL ziq ziX (rcL (bO zhf) zai j6))) (d9 (j4 (j5 (sZ (.func 450) [] [zaf]) (rcL (bO [j3.nilFunc]) ziV zdg))) (d9 (j4 (j5 (sZ (.func 451) [] [zaf]) (j5 (sZ (.func 452) [] [zaf,zan]) (A9 (iF zan) (j5 (E9 zhf [(0,1,oL2),(1,1,oL1),(2,1,oL0)]) (u6 (C9 3 zh8 oL0) j6)))))) o9)),none⟩
theorem abJ:IsF 351 ahF:=isE [0,1,3,2]
def ahG:SFn:=⟨false,[some 0],3,[.tmp 2],d9 (j4 (rcP zcc ziV j6)) (d9 (d9 (j4 (rcP (pIb iLt sLt zah zby) ziX j6)) (l5 zaf (d9 (j4 (j5 zbc (j5 (aW (x9 (j3.str [48,49,50,51,52,53,54,55,56,57,97,98,99,100,101,102,103,104,105,106,107,108,109,110,111,112,113,114,115,116,117,118,119,120,121,122])) (some zah) (some oL0)) zaw))) o9) l7)) (d9 (j4 (j5 zfA (j5 zfA (j5 zfW (j5 (aW (x9 (j3.str [48,48,48,49,48,50,48,51,48,52,48,53,48,54,48,55,48,56,48,57,49,48,49,49,49,50,49,51,49,52,49,53,49,54,49,55,49,56,49,57,50,48,50,49,50,50,50,51,50,52,50,53,50,54,50,55,50,56,50,57,51,48,51,49,51,50,51,51,51,52,51,53,51,54,51,55,51,56,51,57,52,48,52,49,52,50,52,51,52,52,52,53,52,54,52,55,52,56,52,57,53,48,53,49,53,50,53,51,53,52,53,53,53,54,53,55,53,56,53,57,54,48,54,49,54,50,54,51,54,52,54,53,54,54,54,55,54,56,54,57,55,48,55,49,55,50,55,51,55,52,55,53,55,54,55,55,55,56,55,57,56,48,56,49,56,50,56,51,56,52,56,53,56,54,56,55,56,56,56,57,57,48,57,49,57,50,57,51,57,52,57,53,57,54,57,55,57,56,57,57])) (some oL2) (some oL0)) zaw))))) o9)),none⟩
theorem abK:IsF 352 ahG:=isE [0,4,2]
def ahH:SFn:=⟨false,[some 0],5,[.tmp 4],d9 zbJ (d9 (j4 (u6 (o8 464 [zah]) (u6 (o8 48 [oL0]) zeb))) (d9 (d9 zeO (l5 zan zeM l7)) ze0)),none⟩
theorem abL:IsF 378 ahH:=isE [0,4,12,3,2]
def QA:SC:=d9 (d9 (K6 0 (dcP zaM sNo (dcP zaz sNo (dcP zhn sNo (dcP zak sNo (dcP zeR sNo (dcP (gP oL1 true zbv) sNo (dcP (gP oL2 true zaM) sNo (dcP (gP oL3 true zgu) sNo (dcR (gRd zbT true zep) 0 sNo (dcP (gP zcI true zbv) sNo (dcP (gP zix true zaM) sNo (dcP (gP ziu true zaE) sNo (dcP (gP ziF true zfy) sNo (dcR (gRd zeT true zep) 0 sNo (dcE (gE zfe true zf1) ghF sNo (dcP (gP zgO true zcX) sNo (dcP (Z8 (dB 12) oL0 zie) zat bP)))))))))))))))))) zc5) (d9 (o7 3 (K6 0 (dcP zbv sNo (dcP zaM sNo (dcP zbv sNo (dcP zaM sNo (dcP zaE sNo (dcP zfy sNo (dcR zep 0 sNo (dcP zbv sNo (dcP zaM sNo (dcP zgu sNo (dcR zep 0 sNo (dcP (G8 32 zfe zeT) sNo (dcE (C9 32 oL0 zcI) ghF sNo (dcP zbv sNo (dcP zaM sNo (dcP zaE sNo (dcP zfy sNo (dcE (C9 32 oL0 zix) ghF sNo bP)))))))))))))))))))) zdb)
def QB:SC:=d9 zds (d9 (o7 1 (d9 zf8 (o7 2 (D9 QA)))) zdu)
def ahI:SFn:=⟨false,[some 6,some 0,some 2,some 5],8,[],d9 zdT (o7 0 (D9 QB)),none⟩
theorem abM:IsF 380 ahI:=isE [1,8,2,14,9,3,0,34]
def QC:SC:=zaP
def ahJ:SFn:=⟨false,[some 0,some 4],8,[.tmp 7],d9 zaC (d9 (d9 zbf (o7 0 (D9 QC))) zbm),none⟩
theorem abN:IsF 386 ahJ:=isE [0,8,7,9,1,5,16,4]
def ahK:SFn:=⟨false,[some 0],2,[],d9 (j4 (j5 ziC zia)) (j4 (j5 (kI .u64 zaf) (u6 (o8 316 [oL0]) (u6 (o8 489 [zah,zac,zaf,oL0]) j6)))),none⟩
theorem abO:IsF 392 ahK:=isE [0,2]
def ahL:SFn:=⟨false,[some 0],5,[.tmp 3],d9 zc6 (d9 (d9 (j4 (rcP (pIb iGe sGe zah (x9 (j3.int .u64 (Int.ofNat 4294967296)))) ziX j6)) (l5 zaf (d9 (j4 (j5 zaz (j5 (Nw oL0 (x9 (j3.int .u64 (Int.ofNat 32)))) ziv))) (j4 (rcP (J6 (x9 (j3.int .i64 (Int.ofNat 32)))) zai j6))) l7)) (d9 (d9 (j4 (rcP (pIb iGe sGe zah (x9 (j3.int .u64 (Int.ofNat 65536)))) ziV j6)) (l5 zan (d9 (j4 (j5 zaz (j5 (Nw oL0 (x9 (j3.int .u64 (Int.ofNat 16)))) ziv))) (j4 (j5 zaT (j5 (pIb fH fK oL0 zcm) zaW)))) l7)) (d9 (d9 (j4 (rcP (pIb iGe sGe zah (x9 (j3.int .u64 (Int.ofNat 256)))) zas j6)) (l5 zam (d9 (j4 (j5 zaz (j5 (Nw oL0 (x9 (j3.int .u64 (Int.ofNat 8)))) ziv))) (j4 (j5 zaT (j5 (pIb fH fK oL0 zcN) zaW)))) l7)) (d9 (j4 (j5 zaT (j5 (kI .u8 zah) (j5 (nC (x9 (j3.str [0,1,2,2,3,3,3,3,4,4,4,4,4,4,4,4,5,5,5,5,5,5,5,5,5,5,5,5,5,5,5,5,6,6,6,6,6,6,6,6,6,6,6,6,6,6,6,6,6,6,6,6,6,6,6,6,6,6,6,6,6,6,6,6,7,7,7,7,7,7,7,7,7,7,7,7,7,7,7,7,7,7,7,7,7,7,7,7,7,7,7,7,7,7,7,7,7,7,7,7,7,7,7,7,7,7,7,7,7,7,7,7,7,7,7,7,7,7,7,7,7,7,7,7,7,7,7,7,8,8,8,8,8,8,8,8,8,8,8,8,8,8,8,8,8,8,8,8,8,8,8,8,8,8,8,8,8,8,8,8,8,8,8,8,8,8,8,8,8,8,8,8,8,8,8,8,8,8,8,8,8,8,8,8,8,8,8,8,8,8,8,8,8,8,8,8,8,8,8,8,8,8,8,8,8,8,8,8,8,8,8,8,8,8,8,8,8,8,8,8,8,8,8,8,8,8,8,8,8,8,8,8,8,8,8,8,8,8,8,8,8,8,8,8,8,8,8,8,8,8,8,8,8,8,8,8])) oL0) (j5 (kI .i64 oL0) (j5 zgX zaW)))))) o9)))),none⟩
theorem abP:IsF 405 ahL:=isE [0,4,8,2,14]
def ahM:SFn:=⟨false,[some 0,some 4,some 1],6,[.tmp 5],d9 (j4 (rcL ziq zai zcr)) (d9 (d9 (j4 (rcP (pIb iNe sNe zaf zac) ziV j6)) (l5 zan (j4 (j5 zhL (A9 zao (u6 (U1 oL0 [zaf]) j6)))) l7)) (d9 zdF o9)),none⟩
theorem abQ:IsF 448 ahM:=isE [0,2,8,3,1,6]
def ahN:SFn:=⟨false,[],3,[.tmp 2],d9 (j4 (rcP ziI ziV j6)) (d9 (j4 (rcP (J6 (x9 (.func (.func 529) [] []))) ziX j6)) (d9 (j4 (rcP (J6 (x9 (.func (.func 531) [] []))) sH j6)) (d9 (j4 (eX iQ (u6 (y5 J5 1 oL0 zbi (x9 (.func (.func 533) [] []))) (u6 (U1 zah [x9 (.func (.func 534) [] [])]) (u6 (y5 J5 1 oL2 zb0 oL0) (u6 (U1 zah [x9 (.func (.func 535) [] [])]) (u6 (y5 J5 1 zbT zcN oL0) (u6 (y5 J5 1 zcI zfq (x9 (.func (.func 536) [] []))) (u6 (y5 J5 1 zix zby (x9 (.func (.func 538) [] []))) (u6 (U1 zaf [x9 (.func (.func 539) [] [])]) (u6 (y5 J5 1 ziF ze8 oL0) (u6 (U1 zaf [x9 (.func (.func 540) [] [])]) (u6 (y5 J5 1 zfe zcj oL0) (u6 (U1 zaf [x9 (.func (.func 541) [] [])]) (u6 (y5 J5 1 (dB 12) ze9 oL0) (u6 (U1 zaf [x9 (.func (.func 542) [] [])]) (u6 (y5 J5 1 (dB 14) zfa oL0) (u6 (U1 zaf [x9 (.func (.func 543) [] [])]) (u6 (y5 J5 1 (dB 16) zfb oL0) (u6 (U1 zaf [x9 (.func (.func 544) [] [])]) (u6 (y5 J5 1 (dB 18) zcm oL0) (rcP (J6 (dB 19)) ziV j6)))))))))))))))))))))) o9))),none⟩
theorem abR:IsF 449 ahN:=isE [2,1,0]
def ahO:SFn:=⟨false,[some 1,some 0],3,[.tmp 2],d9 zcf (d9 (j4 (A9 zhz (j5 zcH (j5 zdK (A9 zao (u6 (o8 85 [oL0,zaf]) (j5 zcH (j5 zdK (A9 zao (A9 (xu eqStr 1 zaa false oL0 zaf) zaw)))))))))) o9),none⟩
theorem abS:IsF 451 ahO:=isE [1,0,3]
def QD:SC:=d9 zcO (d9 zcC (d9 (o7 1 (d9 (j4 (j5 (G8 4 zaj zan) zcU)) (j4 (j5 zbv (A9 zfB (A9 zhs (u6 (o8 286 [oL1,oL0]) (eX (F6 1 1 [zaa] [(0,1,oL0)]) (u6 (tX 1 8 zbT oL0) zbw))))))))) zb4))
def ahP:SFn:=⟨false,[some 0,some 7,some 11],14,[.tmp 13],d9 (j4 (rcL ziq ziX ze3)) (d9 (j4 (rcP zck zib j6)) (d9 (d9 (j4 (j5 zbH zdA)) (o7 0 (D9 QD))) (d9 (j4 (A9 zfB (j5 zcH (j5 (D8 4 oL0) (A9 zao (u6 (U1 oL0 []) j6)))))) (d9 (K6 0 (dcR zfB 0 sNo (dcP zcH sNo (dcP zic sNo (dcR zao 0 sNo (dcP zbK sNo (dcR zao 0 sNo (dcP zbv sNo (dcE (o8 453 [oL3,oL1,oL0]) ghF sNo (dcP zak sNo (dcP zb9 sNo (dcP zcD sNo (dcP zbQ zif (dcP zbQ zaD bP)))))))))))))) (d9 (d9 (j4 (rcP (pIb iNe sNe zaG zac) zaI j6)) (l5 zaZ (j4 (A9 (iF za5) (u6 (U1 oL0 [zaG]) j6))) l7)) (d9 (j4 (rcP zcE zih j6)) o9)))))),none⟩
theorem abT:IsF 452 ahP:=isE [0,3,13,12,14,11,5,1,7,9,41,2,8,4]
def ahQ:SFn:=⟨false,[some 6,some 0,some 3],12,[.tmp 10,.tmp 11],d9 (j4 (rcP zae zaI ze4)) (d9 (j4 (u6 (o8 38 []) (A9 (xu eqStr 1 zgH true oL0 zah) (j5 zb9 (j5 zcD (rcL zct zas (u6 (C9 2 oL0 oL2) (rcP zgF ziX j6)))))))) (d9 (d9 (j4 (rcP (JX zaf) ziV j6)) (l5 zan (d9 (j4 (rcP zae zaI (rcP zcR zid j6))) o9) l7)) (d9 (d9 (j4 (j5 (Ei zh8) (j5 (D8 0 zam) (A9 zao (j5 zhj (j5 zeJ (u6 (gE oL1 false (o8 188 [oL0,x9 (.func (.func 545) [] [])])) (rcP zbR zh9 j6)))))))) (l5 zaj (d9 (j4 (rcP zae zaI (rcP zaV zid j6))) o9) l7)) (d9 (j4 (j5 (D8 1 zam) (A9 zao (u6 (U1 oL0 [zau,zh8]) (j5 zb9 (j5 zcD (rcP zbQ zaD zg7))))))) (d9 (d9 (j4 (rcP (pIb iNe sNe zaq zac) zaL j6)) (l5 zaA (d9 (j4 (rcP zae zaI (rcP za3 zid j6))) o9) l7)) (d9 (j4 (u6 (o8 537 [zaG]) (j5 zb9 (j5 zcD (rcP zbQ zaI zg8))))) o9)))))),none⟩
theorem abU:IsF 453 ahQ:=isE [1,9,19,2,8,28,0,11,38,10,6,7]
def ahR:SFn:=⟨false,[some 0],4,[.tmp 3],d9 zfN (d9 (d9 zcG (l5 zaf zeM l7)) (d9 (j4 (j5 ziW (j5 zic (A9 zao (j5 zgq zgs))))) (d9 (j4 (j5 ziW (j5 zic (A9 zao (eX zfO zig))))) zco))),none⟩
theorem abV:IsF 464 ahR:=isE [0,9,3,2]
def QE:SC:=o7 1 (d9 (j4 (j5 (pIb xg cu zah zaf) zaw)) (d9 (d9 (j4 (rcP (pIb iLe sLe zan zcj) zai j6)) (l5 zh8 (d9 (j4 (u6 (o8 554 [zam,zaf,zah]) j6)) o9) l7)) (d9 (d9 (j4 (rcP (pIb iEq sEq zaj zac) zib j6)) (l5 zau (d9 (j4 (u6 (o8 555 [zam,zaf,zah]) j6)) o9) l7)) (d9 (d9 (j4 (rcP (JX zaq) zaL j6)) (l5 zaA (d9 (j4 (u6 (o8 556 [zam,zaf,zah]) j6)) (j4 (j5 ziY (j5 zaE zaS)))) l7)) (d9 (j4 (u6 (o8 557 [zam,zaf,zah]) (j5 zb9 (j5 zcD (rcP zbQ zid (rcP zbQ zaD j6)))))) (d9 (d9 (j4 (rcP (pIb iEq sEq zaG zar) zaI j6)) (l5 zaZ (d9 (j4 (u6 (o8 558 [zam,zaf,zah]) j6)) (d9 (j4 (j5 (pIb xg cu zah zad) (j5 zcF (j5 (pIb xg cu oL0 zaf) (j5 (pIb xg cu oL2 oL0) zdP))))) zbZ)) l7)) (d9 (d9 (j4 (j5 (gP zaq true zcE) (j5 (Z8 zaq oL0 zie) (j5 (gP oL0 true zda) (j5 (gP oL1 true zbt) (rcP zil zih j6)))))) (l5 zbL (d9 (j4 (rcE (o8 559 [zam,zaf,zah]) zcv j6)) (l5 zb6 o9 l7)) l7)) (d9 (d9 (K6 0 (dcP zaK sNo (dcP zbu sNo (dcP zak sNo (dcP zg6 sNo (dcP zd9 sNo (dcP (gP oL2 true zaE) sNo (dcP (gP oL3 true zfP) sNo (dcR zeu 0 sNo (dcP zgI sNo (dcP (gP zix true zcF) sNo (dcP (gP ziu true zhH) sNo (dcR zhI 0 sNo (dcE (gE zeT true (o8 560 [zbT,oL0])) ghF sNo (dcP (gP zfe true zip) sNo (dcP (Z8 zgO oL0 zie) zbz bP)))))))))))))))) (l5 zca (d9 (j4 (u6 (o8 561 [zam,zaf,zah,za5]) zgL)) (d9 (j4 (rcP (J6 zfX) ziX j6)) ziO)) l7)) (d9 (j4 (u6 (o8 562 [zam,zaf,zah,za5]) (j5 zb9 (j5 zcD (rcP zbQ zhc (rcP zbQ (sL zaL) j6)))))) (d9 (j4 (rcP zhp zif j6)) (d9 (j4 (j5 (pIb xg cu zcw zaf) (j5 (pIb xg cu zah zcw) (rcP zbQ zdv (rcP zbQ zeY j6))))) (d9 (j4 (j5 (pIb Rs cu zan zcN) (rcP zak (sR zaI) j6))) (d9 (j4 (rcP (pIb iLt sLt zf0 zh6) (sL zaI) j6)) (l5 (D5 (gL ziU)) (d9 (j4 (j5 (pIb iGe sGe zf0 zh7) zaQ)) (d9 (j4 (u6 (o8 489 [zam,zaf,zcw,zaj]) j6)) (j4 (j5 zeB zia)))) (d9 (j4 (j5 (pIb iGe sGe zh6 zh7) zaQ)) (d9 (j4 (j5 zeB (u6 (o8 489 [zam,oL0,zah,zaj]) j6))) (j4 (rcP (J6 zcw) sH j6))))))))))))))))))
def ahS:SFn:=⟨false,[some 4,some 1,some 0,some 5],23,[],d9 (j4 (rcP zer zat j6)) (d9 (j4 (rcP zer zif j6)) (o7 0 (D9 QE))),none⟩
theorem abW:IsF 489 ahS:=isE [2,1,10,23,0,3,29,8,35,12,50,11,9,68,72,87,13,15,14,16,17,113,18]
def ahT:SFn:=⟨false,[some 0],3,[.tmp 2],d9 zbp (d9 (K6 0 (dcP zbU sNo (dcR zao 0 sNo (dcP (pIb iGe sGe oL0 zad) sNo (dcP zak sNo (dcP zdO sNo (dcR za9 0 sNo (dcP (gP oL2 true (pIb iLe sLe oL0 (x9 (j3.int .i64 (Int.ofNat 2147483647))))) sNo (dcP zik sNo (dcP zak sNo (dcP zcA sNo (dcR za9 0 sNo (dcE zhX ghF sNo (dcP (gP oL3 true (pIb iLe sLe oL0 (x9 (j3.int .u64 (Int.ofNat 2147483647))))) sNo (dcP zcP sNo (dcP zak sNo (dcP zcA sNo (dcR za9 0 sNo (dcE zhX ghF sNo (dcP (gP oL3 true zbU) sNo (dcR zeu 1 sNo (dcE (gE zcI true (o8 571 [oL0])) ghF sNo (dcE (gE zix true (o8 572 [oL3,oL0])) ghF sNo (dcP (gP ziu true (pIb iEq sEq oL0 (x9 (j3.int .u64 (Int.ofNat 1))))) sNo (dcP zdr sNo (dcP zak ziV bP)))))))))))))))))))))))))) o9),none⟩
theorem abX:IsF 508 ahT:=isE [0,1,2]
def ahU:SFn:=⟨false,[some 1,some 0,some 2],4,[.tmp 3],zbB,none⟩
theorem abY:IsF 509 ahU:=isE [1,0,2,6]
def QF:SC:=d9 zay (d9 zaF (d9 (o7 1 (d9 (j4 (j5 zgD (A9 zao (rcP zaK zib zef)))) (d9 (j4 (u6 (o8 509 [zaj,zad,x9 (j3.int .i64 (Int.ofNat 1099511627776))]) (j5 zip (j5 (gP oL0 false zbv) (j5 (gP oL1 false zbu) (j5 zet (j5 zeR (j5 zhO (j5 (gP oL2 true zbv) (j5 (gP oL3 true zaE) (j5 (gP zbT true zfP) (A9 (gRd zcI true zao) (j5 (gP zix true (pIb iLe sLe zcI oL0)) (j5 (gP zfe false zh0) (rcP zhW zat j6))))))))))))))) (l5 zaq (d9 zgg o9) l7)))) zav))
def ahV:SFn:=⟨false,[some 0],9,[.tmp 8],d9 zgg (d9 (d9 zaB (o7 0 (D9 QF))) (d9 (j4 (j5 ziC (j5 (pIb iLe sLe oL0 zbi) zbA))) o9)),none⟩
theorem abZ:IsF 514 ahV:=isE [0,7,6,8,5,4,3,27,2]
def ahW:SFn:=⟨false,[some 1,some 0],4,[.tmp 3],d9 (j4 (rcL ziq ziV zhe)) (d9 (j4 (u6 (o8 303 [zaf]) (j5 (sZ (.func 575) [] [zan]) (u6 (o8 574 [oL1,oL0]) zaW)))) o9),none⟩
theorem ac0:IsF 517 ahW:=isE [1,0,3,4]
def ahX:SFn:=⟨false,[some 0,some 1],4,[.tmp 3],d9 (j4 (rcL ziq ziV ziw)) (d9 (j4 (j5 (pIb iGe sGe zaf zac) (j5 ziy (j5 (gP oL1 true zdM) (A9 (gRd oL2 true zao) (j5 (gP oL3 true (pIb iLt sLt oL2 oL0)) (j5 zcP zaW))))))) o9),none⟩
theorem ac1:IsF 526 ahX:=isE [0,1,2,4]
def ahY:SFn:=⟨false,[some 0],3,[.tmp 2],d9 zex (d9 (j4 (j5 (sZ (.func 530) [] [zaf]) zaw)) o9),none⟩
theorem ac2:IsF 529 ahY:=isE [0,1,2]
def ahZ:SFn:=⟨false,[some 0],3,[.tmp 2],d9 zex (d9 (j4 (j5 (sZ (.func 532) [] [zaf]) zaw)) o9),none⟩
theorem ac3:IsF 531 ahZ:=isE [0,1,2]
def ai0:SFn:=⟨false,[some 0],4,[.tmp 2,.tmp 3],d9 (j4 (rcP zae ziV zbC)) (d9 (d9 (j4 (u6 (o8 344 [zah]) zh3)) (l5 zaf (d9 (j4 (rcP zae ziV zfp)) o9) l7)) (d9 (j4 (rcP zaz ziV zbC)) o9)),none⟩
theorem ac4:IsF 537 ai0:=isE [0,6,2,3]
def ai1:SFn:=⟨false,[some 0],2,[.tmp 1],d9 za6 (d9 (j4 (u6 (o8 344 [zah]) (j5 zip zia))) o9),none⟩
theorem ac5:IsF 545 ai1:=isE [0,2]
def QG:SC:=d9 (d9 (K6 0 (dcP zaM sNo (dcP zaz sNo (dcP zhn sNo (dcP zak sNo (dcP zeR sNo (dcP (gP oL1 true zaM) sNo (dcP (gP oL2 true zhH) sNo (dcR zdc 0 sNo (dcP (gP zbT true ziY) sNo (dcP zgI sNo (dcP (gP zix true zaE) sNo (dcP (gP ziu true zfP) sNo (dcR zhI 0 sNo (dcE (gE zeT true (o8 560 [zcI,oL0])) ghF sNo (dcP zfR zib bP)))))))))))))))) (l5 zau l7 ziP)) (d9 (o7 3 (K6 0 (dcP ziY sNo (dcP zaM sNo (dcP ziY sNo (dcP zaM sNo (dcP zaE sNo (dcP zfP sNo (dcR zao 0 sNo (dcP ziY sNo (dcP zaM sNo (dcP zhH sNo (dcR zao 0 sNo (dcP (G8 1 zfe zeT) sNo (dcE (C9 1 oL0 zcI) ghF sNo (dcP ziY sNo (dcP zaM sNo (dcP zaE sNo (dcP zfP sNo (dcE (C9 1 oL0 zix) ghF sNo bP)))))))))))))))))))) zdb)
def QH:SC:=d9 zds (d9 (o7 1 (d9 zf8 (o7 2 (D9 QG)))) zdu)
def ai2:SFn:=⟨false,[some 5,some 0,some 2],7,[],d9 zdT (o7 0 (D9 QH)),none⟩
theorem ac6:IsF 554 ai2:=isE [1,6,2,12,7,0,30]
def ai3:SFn:=⟨false,[some 0],3,[.tmp 2],d9 (j4 (rcP zgV ziV j6)) (d9 (d9 (j4 (rcP (pIb iLt sLt zah zac) ziX j6)) (l5 zaf (d9 (j4 (j5 (kI .u64 zah) (j5 (KM oL0) zaw))) o9) l7)) (d9 (j4 (j5 (kI .u64 zah) zaw)) o9)),none⟩
theorem ac7:IsF 571 ai3:=isE [0,4,2]
def QI:SC:=d9 (d9 (j4 (rcP (pIb iNe sNe zah zfr) ziX j6)) zeL) (o7 1 (K6 0 (dcP zaz sNo (dcP zbk sNo (dcP zaz sNo (dcP (pIb Tn cu oL1 oL0) sNo (dcP (J6 oL3) ziV (dcP zbQ sH bP))))))))
def ai4:SFn:=⟨false,[some 2,some 0],4,[.tmp 3],d9 (j4 (rcP zgV zai j6)) (d9 (o7 0 (D9 QI)) zco),none⟩
theorem ac8:IsF 572 ai4:=isE [1,6,0,4]
def QJ:SC:=d9 (d9 (j4 (j5 ziC (rcP (pIb iLt sLt zam oL0) zh9 j6))) (l5 zaj l7 ziL)) (d9 (o7 1 (d9 (j4 (j5 (G8 1 zah zam) zf7)) (d9 (j4 (u6 (U1 zaf [zau]) (rcP zip zat j6))) (l5 zaq (d9 (j4 (j5 (G8 1 zah zan) (u6 (C9 1 oL0 zau) j6))) zbP) l7)))) (j4 (j5 zaM (j5 zax zbd))))
def ai5:SFn:=⟨false,[some 0,some 1],9,[.tmp 8],d9 (j4 (rcP zck zaL j6)) (d9 (j4 (u6 zht zaw)) (d9 (d9 (j4 (rcP (pIb iEq sEq zan zaY) zai j6)) (l5 zh8 (d9 (j4 (rcP zaz zaL j6)) o9) l7)) (d9 (d9 (j4 (j5 (pIb fH fK zan zad) zbd)) (o7 0 (D9 QJ))) (d9 (j4 (eX (lSl 1 zah (some zan) none) (u6 (Bt [zaa] oL0) j6))) (d9 (j4 (eX (lSl 1 zah none (some zan)) zbA)) o9))))),none⟩
theorem ac9:IsF 574 ai5:=isE [0,1,5,12,6,19,7,29,4]
def ai6:SFn:=⟨false,[some 0,some 1],2,[],j4 (j5 ziW (j5 zic (A9 zao (eX (F6 1 1 [zaa] [(0,1,zaf)]) (u6 (tX 1 8 oL1 oL0) zig))))),none⟩
theorem acd:IsF 581 ai6:=isE [0,1]
def ai7:SFn:=⟨false,[some 0],5,[.tmp 3,.tmp 4],d9 (j4 (rcP zae zai zdH)) (d9 zcf (d9 (d9 zcG (l5 zaf (d9 (j4 (rcP zbk zai zdH)) o9) l7)) (d9 (K6 1 (dcP zaz sNo (dcP zaz sNo (dcP zcH sNo (dcP zic sNo (dcR zao 0 sNo (dcP zgq sNo (dcR zao 0 sNo (dcP zaz sNo (dcP zcH sNo (dcP zic sNo (dcR zao 0 sNo (dcL zfO 0 sNo (dcP (J6 zcI) ziV (dcP (O7 (dB 12)) sNo (dcP zic sNo (dcE (C9 1 oL0 oL3) ghF sNo bP))))))))))))))))) (d9 (j4 (rcP zbk zai (rcP zer zas j6))) o9)))),none⟩
theorem ace:IsF 582 ai7:=isE [0,10,4,2,3]
def QK:SC:=d9 zay (d9 zaF (d9 (o7 1 (d9 (j4 (j5 (G8 2 zam zaf) (A9 zfw (rcL zaN zh9 zde)))) (d9 (j4 (A9 zhU (u6 (o8 508 [oL0]) zhw))) (l5 zau (d9 (j4 (rcP zaV zat j6)) o9) l7)))) zav))
def ai8:SFn:=⟨false,[some 0],8,[.tmp 7],d9 zaC (d9 (d9 zaB (o7 0 (D9 QK))) zeg),none⟩
theorem acf:IsF 601 ai8:=isE [0,7,6,8,5,4,13,2]
end
end Go.Proofs.YteecnooaopfkeaaGreatDoor.TT

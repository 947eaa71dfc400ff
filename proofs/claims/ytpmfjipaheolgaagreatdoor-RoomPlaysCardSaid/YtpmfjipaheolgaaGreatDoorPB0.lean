/- The tables as one tree, what is known of the variables, and the calls of the fixed example as data; no condition. -/
import Derived.Test.YtpmfjipaheolgaaGreatDoorPB1
import Derived.Test.YtpmfjipaheolgaaGreatDoorPB2
import Derived.Test.YtpmfjipaheolgaaGreatDoorPB3
import Derived.Test.YtpmfjipaheolgaaGreatDoorPB4
set_option linter.all false
namespace Go.Proofs.YtpmfjipaheolgaaGreatDoor.TT
open Go Go.AM
set_option maxRecDepth 100000
open Nat (beq ble blt)
noncomputable section
def tab:TtR λi=>i:=(Cr (Cr (Cr (Cr (I8 (I8 (I8 (I8 (I8 (I8 H7 apP H7) anu.is H7) alv H7) auB (Cr (I8 H7 ao8.is H7) (I8 H7 apj H7))) auf (I8 (I8 H7 am0.is H7) av6.is (I8 (I8 H7 aoq.is H7) amV H7))) au0 (Cr (I8 (I8 (I8 H7 anL H7) alL H7) auR (I8 H7 amF H7)) (Cr (I8 (I8 H7 ao0.is H7) amf (I8 H7 ap4 H7)) (I8 (I8 H7 aoG.is H7) anb.is H7)))) (I8 (I8 (I8 (I8 (I8 H7 anD H7) alD H7) auJ H7) auj (I8 (I8 H7 am7 (I8 H7 ap1.is H7)) ale (I8 (I8 H7 aoy.is H7) an3.is (I8 H7 apC.is H7)))) au7 (Cr (I8 (I8 (I8 H7 anT H7) alS H7) auY.is (I8 (I8 H7 aoi.is H7) amN (I8 H7 apq.is H7))) (I8 (I8 (I8 H7 ao1 H7) amn (I8 H7 apa.is H7)) alp (I8 H7 ank (I8 H7 apK.is H7)))))) (Cr (I8 (I8 (I8 (I8 (I8 H7 anz.is H7) alz (I8 H7 aoN H7)) auF H7) ala.is (I8 (I8 (I8 H7 anX.is H7) gU.is (I8 H7 aoY.is H7)) ava.is (I8 (I8 H7 aou H7) amZ (I8 H7 apy H7)))) au3 (Cr (I8 (I8 (I8 H7 anP H7) alP H7) auU.is (I8 H7 amJ H7)) (Cr (I8 H7 amj.is (I8 H7 ap6.is H7)) (I8 (I8 H7 aoK H7) ang.is (I8 H7 apG H7))))) (I8 (I8 (I8 (I8 (I8 H7 anH H7) alH (I8 H7 aoR.is H7)) auN (I8 (I8 H7 aod H7) amB H7)) aun (I8 (I8 (I8 H7 anY.is H7) amb H7) alh.is (I8 (I8 H7 aoC H7) an7.is H7))) aub (I8 (I8 (I8 H7 alW H7) av2 (I8 (I8 H7 aom.is H7) amR (I8 H7 apt.is H7))) auw (Cr (I8 (I8 H7 ao5 H7) ams.is (I8 H7 ape H7)) (I8 H7 anp.is (I8 H7 apO.is H7))))))) (I8 (Cr (I8 (I8 (I8 (Cr (I8 (I8 H7 apR.is H7) anw H7) H7) auD (Cr (I8 H7 aoa H7) (I8 H7 apl.is H7))) aug.is (I8 (I8 H7 am2.is (I8 H7 aoW.is H7)) av8.is (I8 (I8 H7 aos.is H7) amX (I8 H7 apw.is H7)))) au1 (Cr (I8 (I8 (I8 H7 anN H7) alN H7) auT (I8 (I8 H7 aoe H7) amH H7)) (I8 (I8 H7 amh.is H7) aln.is (I8 (I8 H7 aoI.is H7) ane.is H7)))) (I8 (I8 (I8 (I8 (I8 H7 anF H7) alF (I8 H7 aoP H7)) auL (I8 H7 amz (I8 H7 apo H7))) aul (I8 (I8 H7 am9 (I8 H7 ap3 H7)) alg.is (I8 (I8 H7 aoA.is H7) an5.is H7))) au9 (I8 (I8 (I8 (I8 H7 anV.is H7) alU.is H7) av0 (I8 (I8 H7 aok.is H7) amP H7)) auu (I8 (I8 (I8 H7 ao3 H7) amq.is (I8 H7 apc.is H7)) alr (I8 H7 anm.is (I8 H7 apM.is H7)))))) is5 (Cr (I8 (I8 (I8 (I8 (I8 H7 anB H7) alB H7) auH (I8 H7 amx H7)) auh.is (I8 (I8 H7 am5 (I8 H7 ap0 H7)) ald.is (I8 (I8 H7 aow.is H7) an1 (I8 H7 apA.is H7)))) au5 (I8 (I8 (I8 (I8 H7 anR H7) alR.is H7) auW.is (I8 (I8 H7 aog H7) amL H7)) aus (Cr (I8 H7 aml (I8 H7 ap8.is H7)) (I8 (I8 H7 aoM H7) ani.is (I8 H7 apI H7))))) (I8 (I8 (I8 (I8 (I8 H7 anJ H7) alJ (I8 H7 aoT.is H7)) auP (I8 H7 amD H7)) aup.is (I8 (I8 (I8 H7 anZ.is H7) amd.is H7) alj.is (I8 (I8 H7 aoE H7) an9 H7))) aud (I8 (I8 (I8 H7 alY.is H7) av4 (I8 (I8 H7 aoo.is H7) amT H7)) auz (Cr (I8 (I8 H7 ao6.is H7) amu (I8 H7 apg.is H7)) (I8 H7 anr.is H7))))))) (Cr (I8 (I8 (I8 (I8 (I8 (I8 (I8 (I8 H7 apQ.is H7) anv.is H7) alx H7) auC (I8 (I8 H7 ao9 H7) amw (I8 H7 apk.is H7))) is32 (I8 (I8 H7 am1.is (I8 H7 aoV H7)) av7.is (I8 (I8 H7 aor.is H7) amW (I8 H7 apv.is H7)))) is16 (I8 (I8 (I8 (I8 H7 anM H7) alM H7) auS (I8 H7 amG H7)) aur (I8 (I8 H7 amg.is H7) alm (I8 (I8 H7 aoH.is H7) anc.is H7)))) fq8.is (I8 (I8 (I8 (I8 (I8 H7 anE H7) alE H7) auK (I8 H7 amy (I8 H7 apn H7))) auk (I8 (I8 H7 am8 (I8 H7 ap2 H7)) alf (I8 (I8 H7 aoz.is H7) an4.is (I8 H7 apD.is H7)))) au8 (I8 (I8 (I8 (I8 H7 anU H7) alT.is H7) auZ.is (I8 (I8 H7 aoj.is H7) amO (I8 H7 apr.is H7))) aut (I8 (I8 (I8 H7 ao2.is H7) amo (I8 H7 apb H7)) alq (I8 H7 anl.is (I8 H7 apL.is H7)))))) is4 (Cr (I8 (I8 (I8 (I8 (I8 H7 anA.is H7) alA (I8 H7 aoO H7)) auG H7) ahQ.is (I8 (I8 H7 am4 (I8 H7 aoZ.is H7)) alc (I8 (I8 H7 aov.is H7) an0 (I8 H7 apz.is H7)))) au4 (Cr (I8 (I8 (I8 H7 anQ H7) alQ H7) auV.is (I8 (I8 H7 aof H7) amK H7)) (Cr (I8 H7 amk (I8 H7 ap7.is H7)) (I8 (I8 H7 aoL H7) anh (I8 H7 apH.is H7))))) (I8 (I8 (I8 (I8 (I8 H7 anI H7) alI (I8 H7 aoS H7)) auO (I8 H7 amC H7)) auo (I8 (I8 H7 amc H7) ali.is (I8 (I8 H7 aoD H7) an8.is H7))) auc (I8 (I8 (I8 H7 alX.is H7) av3 (I8 (I8 H7 aon.is H7) amS (I8 H7 apu.is H7))) auy (I8 (I8 H7 amt.is (I8 H7 apf.is H7)) als (I8 H7 anq.is H7)))))) (I8 (Cr (I8 (I8 (I8 (I8 (I8 H7 anx H7) aly H7) auE (Cr (I8 H7 aob H7) (I8 H7 apm H7))) ab1.is (I8 (I8 (I8 H7 anW H7) am3.is (I8 H7 aoX.is H7)) av9.is (I8 (I8 H7 aot.is H7) amY (I8 H7 apx H7)))) au2 (Cr (I8 (I8 (I8 H7 anO H7) alO H7) alb.is (I8 H7 amI H7)) (Cr (I8 H7 ami.is (I8 H7 ap5.is H7)) (I8 (I8 H7 aoJ.is H7) anf.is (I8 H7 apF.is H7))))) (I8 (I8 (I8 (I8 (I8 H7 anG H7) alG (I8 H7 aoQ.is H7)) auM (I8 (I8 H7 aoc H7) amA H7)) aum.is (Cr (I8 H7 ama H7) (I8 (I8 H7 aoB.is H7) an6.is (I8 H7 apE H7)))) aua (I8 (I8 (I8 H7 alV.is H7) av1 (I8 (I8 H7 aol.is H7) amQ (I8 H7 aps.is H7))) auv (Cr (I8 (I8 H7 ao4 H7) amr.is (I8 H7 apd.is H7)) (I8 H7 ano (I8 H7 apN.is H7)))))) is6 (I8 (I8 (I8 (I8 (I8 (I8 H7 anC H7) alC H7) auI H7) aui (Cr (I8 H7 am6 (I8 H7 Nw H7)) (I8 (I8 H7 aox H7) an2 (I8 H7 apB.is H7)))) au6 (Cr (I8 (I8 (I8 H7 anS H7) agV.is H7) auX.is (I8 (I8 H7 aoh.is H7) amM H7)) (I8 (I8 H7 amm (I8 H7 ap9.is H7)) alo (I8 H7 anj.is (I8 H7 apJ.is H7))))) atZ (I8 (I8 (I8 (I8 (I8 H7 anK H7) alK (I8 H7 aoU H7)) auQ (I8 H7 amE H7)) auq.is (I8 (I8 H7 ame H7) alk.is (I8 (I8 H7 aoF.is H7) ana.is H7))) aue (I8 (I8 (I8 H7 alZ.is H7) av5 (I8 (I8 H7 aop H7) amU H7)) auA (I8 (I8 (I8 H7 ao7 H7) amv (I8 H7 aph.is H7)) alu (I8 H7 ant.is H7))))))))
def fns(f:FuncId):Option L6:=ob (tab.1.get f) λx=>x
theorem abm:∀f sf,fns f=some sf->sO Tryz.prog f sf:=aaO tab.2
def nsA:cQ:=[0,0,0,0,0,0,0,0,0,1,1,1,1,1,0,0,0,0,0,0,0,0,0,0,0,0,0,0,0,0,0,0,1,0,0,0,0,0,0,0,0,0,0,0,0,0,0,0,0,0,0,0,0,0,0,0,0,0,0,0,0,0,0,0,0,0,0,0,0,0,0,0,0,0,0,0,0,0,0,0,0,0,0,0,0,0,0,0,0,0,0,0,0,0,0,0,0,0,0,0,0,0,0,0,0,0,0,0,0,0,0,0,0,0,0,0,0,0,0,0,0,0,0,0,0,0,0,0,0,0,0,0,0,0,0,0,0,0,0,0,0,0,0,0,0,0,0,0,0,0,0,0,0,0,0,0,0,0,0,0,0,0,0,0,0,0,0,0,0,0,0,0,0,0,0,0,0,0,0,0,0,0,0,0,0,0,0,0,0,0,0,0,0,0,0,0,0,0,0,0,0,0,0,0,0,0,0,0,0,0,0,0,0,0,0,0,0,0,0,0,0,0,0,0,0,0,0,0,0,0,0,0,0,0,0,0,0,0,0,0,0,0,0,0,0,0,0,0,0,0,0,0,0,0,0,0]
def nsP:cQ:=[1,10,100,1000,10000,100000,1000000,10000000,100000000,1000000000,10000000000,100000000000,1000000000000,10000000000000,100000000000000,1000000000000000,10000000000000000,100000000000000000,1000000000000000000,10000000000000000000]
def aeb:cQ:=[0,1,28,2,29,14,24,3,30,22,20,15,25,17,4,8,31,27,13,23,21,19,16,7,26,12,18,6,11,5,10,9]
def aec:cQ:=[0,1,56,2,57,49,28,3,61,58,42,50,38,29,17,4,62,47,59,36,45,43,51,22,53,39,33,30,24,18,12,5,63,55,48,27,60,41,37,16,46,35,44,21,52,32,23,11,54,26,40,15,34,20,31,10,25,14,19,9,13,8,7,6]
def nsW:cQ:=[9,13,1,32,133,101,160,5760,5600,8192,8202,1,8232,8233,1,8239,8287,48,12288,12288,1]
def Ny:List NB:=[.cells 1 [[.iface 504 (.ptr 13 0)]],.cells 1 [[.iface 504 (.ptr 14 0)]],.cells 256 [[.int .u8 0,.int .u8 0,.int .u8 0,.int .u8 0,.int .u8 0,.int .u8 0,.int .u8 0,.int .u8 0,.int .u8 0,.int .u8 1,.int .u8 1,.int .u8 1,.int .u8 1,.int .u8 1,.int .u8 0,.int .u8 0,.int .u8 0,.int .u8 0,.int .u8 0,.int .u8 0,.int .u8 0,.int .u8 0,.int .u8 0,.int .u8 0,.int .u8 0,.int .u8 0,.int .u8 0,.int .u8 0,.int .u8 0,.int .u8 0,.int .u8 0,.int .u8 0,.int .u8 1,.int .u8 0,.int .u8 0,.int .u8 0,.int .u8 0,.int .u8 0,.int .u8 0,.int .u8 0,.int .u8 0,.int .u8 0,.int .u8 0,.int .u8 0,.int .u8 0,.int .u8 0,.int .u8 0,.int .u8 0,.int .u8 0,.int .u8 0,.int .u8 0,.int .u8 0,.int .u8 0,.int .u8 0,.int .u8 0,.int .u8 0,.int .u8 0,.int .u8 0,.int .u8 0,.int .u8 0,.int .u8 0,.int .u8 0,.int .u8 0,.int .u8 0,.int .u8 0,.int .u8 0,.int .u8 0,.int .u8 0,.int .u8 0,.int .u8 0,.int .u8 0,.int .u8 0,.int .u8 0,.int .u8 0,.int .u8 0,.int .u8 0,.int .u8 0,.int .u8 0,.int .u8 0,.int .u8 0,.int .u8 0,.int .u8 0,.int .u8 0,.int .u8 0,.int .u8 0,.int .u8 0,.int .u8 0,.int .u8 0,.int .u8 0,.int .u8 0,.int .u8 0,.int .u8 0,.int .u8 0,.int .u8 0,.int .u8 0,.int .u8 0,.int .u8 0,.int .u8 0,.int .u8 0,.int .u8 0,.int .u8 0,.int .u8 0,.int .u8 0,.int .u8 0,.int .u8 0,.int .u8 0,.int .u8 0,.int .u8 0,.int .u8 0,.int .u8 0,.int .u8 0,.int .u8 0,.int .u8 0,.int .u8 0,.int .u8 0,.int .u8 0,.int .u8 0,.int .u8 0,.int .u8 0,.int .u8 0,.int .u8 0,.int .u8 0,.int .u8 0,.int .u8 0,.int .u8 0,.int .u8 0,.int .u8 0,.int .u8 0,.int .u8 0,.int .u8 0,.int .u8 0,.int .u8 0,.int .u8 0,.int .u8 0,.int .u8 0,.int .u8 0,.int .u8 0,.int .u8 0,.int .u8 0,.int .u8 0,.int .u8 0,.int .u8 0,.int .u8 0,.int .u8 0,.int .u8 0,.int .u8 0,.int .u8 0,.int .u8 0,.int .u8 0,.int .u8 0,.int .u8 0,.int .u8 0,.int .u8 0,.int .u8 0,.int .u8 0,.int .u8 0,.int .u8 0,.int .u8 0,.int .u8 0,.int .u8 0,.int .u8 0,.int .u8 0,.int .u8 0,.int .u8 0,.int .u8 0,.int .u8 0,.int .u8 0,.int .u8 0,.int .u8 0,.int .u8 0,.int .u8 0,.int .u8 0,.int .u8 0,.int .u8 0,.int .u8 0,.int .u8 0,.int .u8 0,.int .u8 0,.int .u8 0,.int .u8 0,.int .u8 0,.int .u8 0,.int .u8 0,.int .u8 0,.int .u8 0,.int .u8 0,.int .u8 0,.int .u8 0,.int .u8 0,.int .u8 0,.int .u8 0,.int .u8 0,.int .u8 0,.int .u8 0,.int .u8 0,.int .u8 0,.int .u8 0,.int .u8 0,.int .u8 0,.int .u8 0,.int .u8 0,.int .u8 0,.int .u8 0,.int .u8 0,.int .u8 0,.int .u8 0,.int .u8 0,.int .u8 0,.int .u8 0,.int .u8 0,.int .u8 0,.int .u8 0,.int .u8 0,.int .u8 0,.int .u8 0,.int .u8 0,.int .u8 0,.int .u8 0,.int .u8 0,.int .u8 0,.int .u8 0,.int .u8 0,.int .u8 0,.int .u8 0,.int .u8 0,.int .u8 0,.int .u8 0,.int .u8 0,.int .u8 0,.int .u8 0,.int .u8 0,.int .u8 0,.int .u8 0,.int .u8 0,.int .u8 0,.int .u8 0,.int .u8 0,.int .u8 0,.int .u8 0,.int .u8 0,.int .u8 0,.int .u8 0,.int .u8 0,.int .u8 0,.int .u8 0,.int .u8 0,.int .u8 0,.int .u8 0,.int .u8 0,.int .u8 0,.int .u8 0,.int .u8 0,.int .u8 0,.int .u8 0,.int .u8 0,.int .u8 0]],.dead,.cells 1 [[.ptr 11 0]],.dead,.dead,.cells 20 [[.int .u64 1,.int .u64 10,.int .u64 100,.int .u64 1000,.int .u64 10000,.int .u64 100000,.int .u64 1000000,.int .u64 10000000,.int .u64 100000000,.int .u64 1000000000,.int .u64 10000000000,.int .u64 100000000000,.int .u64 1000000000000,.int .u64 10000000000000,.int .u64 100000000000000,.int .u64 1000000000000000,.int .u64 10000000000000000,.int .u64 100000000000000000,.int .u64 1000000000000000000,.int .u64 10000000000000000000]],.cells 32 [[.int .u8 0,.int .u8 1,.int .u8 28,.int .u8 2,.int .u8 29,.int .u8 14,.int .u8 24,.int .u8 3,.int .u8 30,.int .u8 22,.int .u8 20,.int .u8 15,.int .u8 25,.int .u8 17,.int .u8 4,.int .u8 8,.int .u8 31,.int .u8 27,.int .u8 13,.int .u8 23,.int .u8 21,.int .u8 19,.int .u8 16,.int .u8 7,.int .u8 26,.int .u8 12,.int .u8 18,.int .u8 6,.int .u8 11,.int .u8 5,.int .u8 10,.int .u8 9]],.cells 64 [[.int .u8 0,.int .u8 1,.int .u8 56,.int .u8 2,.int .u8 57,.int .u8 49,.int .u8 28,.int .u8 3,.int .u8 61,.int .u8 58,.int .u8 42,.int .u8 50,.int .u8 38,.int .u8 29,.int .u8 17,.int .u8 4,.int .u8 62,.int .u8 47,.int .u8 59,.int .u8 36,.int .u8 45,.int .u8 43,.int .u8 51,.int .u8 22,.int .u8 53,.int .u8 39,.int .u8 33,.int .u8 30,.int .u8 24,.int .u8 18,.int .u8 12,.int .u8 5,.int .u8 63,.int .u8 55,.int .u8 48,.int .u8 27,.int .u8 60,.int .u8 41,.int .u8 37,.int .u8 16,.int .u8 46,.int .u8 35,.int .u8 44,.int .u8 21,.int .u8 52,.int .u8 32,.int .u8 23,.int .u8 11,.int .u8 54,.int .u8 26,.int .u8 40,.int .u8 15,.int .u8 34,.int .u8 20,.int .u8 31,.int .u8 10,.int .u8 25,.int .u8 14,.int .u8 19,.int .u8 9,.int .u8 13,.int .u8 8,.int .u8 7,.int .u8 6]],.dead,.cells 3 [[.slice 12 0 7 7,.nilSlice,.int .i64 2]],.cells 21 [[.int .u16 9,.int .u16 13,.int .u16 1,.int .u16 32,.int .u16 133,.int .u16 101,.int .u16 160,.int .u16 5760,.int .u16 5600,.int .u16 8192,.int .u16 8202,.int .u16 1,.int .u16 8232,.int .u16 8233,.int .u16 1,.int .u16 8239,.int .u16 8287,.int .u16 48,.int .u16 12288,.int .u16 12288,.int .u16 1]],.dead,.dead]
def base:cD:=layAll Ny ⟨.e,0,0⟩
theorem pE:Pf base Ny:=by
 refine⟨?_,rfl,?_,?_⟩;have:T.Ok (T.ofList (Ny.map fB)) 15:=T.kL (Ny.map fB);exact this;intro i a;have h:base.nx=15:=rfl;rw[h]at a;match i,a with
 |0,_=>rfl
 |1,_=>rfl
 |2,_=>rfl
 |3,_=>rfl
 |4,_=>rfl
 |5,_=>rfl
 |6,_=>rfl
 |7,_=>rfl
 |8,_=>rfl
 |9,_=>rfl
 |10,_=>rfl
 |11,_=>rfl
 |12,_=>rfl
 |13,_=>rfl
 |14,_=>rfl
 intro b h;simp only[Ny,O4,arj,or_false]at h;rcases h with rfl|rfl|rfl|rfl|rfl|rfl|rfl|rfl|rfl|rfl|rfl|rfl|rfl|rfl|rfl<;>rfl
def Kof(l:List Sum):Known:=⟨fns,base,sumOf l⟩
def okA(o:Option EK)(a:EK):Bool:=Option.rec false (λb=>bi (bg 100 b.v a.v) (oD b.bs a.bs) false) o
theorem ai1{o:Option EK}{a:EK}(h:okA o a=true):o=some a:=by
 cases o with
 |none=>cases h
 |some b=>
  have h:bi (bg 100 b.v a.v) (oD b.bs a.bs) false=true:=h;cases h1:bg 100 b.v a.v with
  |false=>rw[h1]at h;cases h
  |true=>
   rw[h1]at h;have h:oD b.bs a.bs=true:=h;have c:=lX 100 _ _ h1;have d:=tH _ _ h;cases a;cases b
   simp_all
def bB(s:Sum):Prop:=lI Tryz.prog base s.f s.args s.bs s.a
def BG:List Sum->Prop
 |[]=>True
 |s::l=>bB s∧BG l
theorem BG.mem:∀{l:List Sum},BG l->∀s∈l,bB s
 |[],_,_,h=>by cases h
 |x::l,⟨h1,h2⟩,s,h=>by rcases O4.1 h with rfl|h;exact h1;exact BG.mem h2 s h
theorem mixed:Tryz.prog.follows .mixedOrders=true:=by kernel_rfl
theorem ai2{l:List Sum}(a:BG l):KOk Tryz.prog (Kof l):=⟨mixed,abm,⟨Ny,pE⟩,Ck l a.mem⟩
abbrev Ran(sf:L6)(l:List Sum)(s:Sum):Prop:=okA (Gt (Kof l) (l9 (Kof l) 100000 1000) 100000 s.f sf s.args s.bs) s.a=true
theorem run{l:List Sum}{s:Sum}{sf:L6}(hf:sO Tryz.prog s.f sf)(a:BG l)(h:Ran sf l s):bB s:=UH (ai2 a) hf (ai1 h)
theorem run'{l:List Sum}{s:Sum}{sf:L6}(hf:sO Tryz.prog s.f sf)(a:BG l)(h:Ran sf l s:=by decide +kernel):bB s:=run hf a h
theorem tK:BG []:=trivial
theorem qP{l:List Sum}{s:Sum}(h:bB s)(a:BG l):BG (s::l):=⟨h,a⟩
abbrev yF:=I 1
abbrev yB:=I 5
abbrev yx:=I 0
abbrev yE:=I 2
abbrev yD:=I 1000
abbrev yC:=I 3
abbrev yA:=I 15
abbrev yy:=C 1 [[yF]]
abbrev yw:=C 1 [[yE]]
abbrev ya:List NB:=[C 32 [[yF,yF,yB,yF,yx,yE,yx,yx,yx,yx,yx,yx,yx,yx,yx,yx,yx,yx,yx,yx,yx,yx,Z,Z,yx,yx,yx,yx,yx,Z,yx,yx],[yF,yE,yB,yE,yx,yx,yF,yx,yD,J 4,yB,yF,I 10,yF,yx,yx,yx,yx,yx,yx,yx,yx,Z,Z,yx,yx,yx,yx,yx,Z,yx,yx],[yF,yC,yB,yE,yx,yx,yE,yx,yD,J 49,I 50,yF,I 4,yx,yx,yx,yx,yx,yx,yx,yx,yx,Z,Z,yx,yx,yx,yx,yx,Z,yx,yx],[yF,I 4,yB,yE,yx,yx,yC,yx,I 1100,J 0,yF,yx,yF,yx,yx,yx,yx,yx,yx,yx,yx,yx,Z,Z,yx,yx,yx,yx,yx,Z,yx,yx],[yF,yB,yB,yC,yx,yx,yx,yx,yx,yx,yx,yx,yx,yx,yF,I 10,yx,yx,yx,yx,yx,yx,Z,Z,yx,yx,yx,yx,yx,Z,yx,yx],[yF,I 6,yB,yB,yx,yx,yx,yx,yx,yx,yx,yx,yx,yx,yx,yx,yx,yx,yx,yx,yx,I 10,S 16 0 1 1,S 17 0 1 1,J 19,yF,I 100,I 200,yx,Z,yx,yx],[yE,yF,I 9,I 6,yx,yx,yx,yx,yx,yx,yx,yx,yx,yx,yx,yx,yx,yx,yx,yx,yx,yx,Z,Z,yx,yx,yx,yx,I 12,S 18 0 2 2,yx,yx],[yE,yE,I 9,yB,yx,yx,yx,yx,yx,yx,yx,yx,yx,yx,yx,yx,yx,yx,yx,yx,yx,yA,S 19 0 1 1,S 20 0 1 1,I 100,yF,yx,yx,yx,Z,yx,yx],[yE,yC,I 12,yB,yx,yx,yx,yx,yx,yx,yx,yx,yx,yx,yx,yx,yx,yx,yx,yx,yx,yA,S 21 0 1 1,Z,I 1100,yx,yx,yx,yx,Z,yx,yx],[yE,I 4,I 20,I 7,yx,yx,yx,yx,yx,yx,yx,yx,yx,yx,yx,yx,yx,yx,yx,yx,yx,yx,Z,Z,yx,yx,yx,yx,yx,Z,yE,yC]],yy,yw,C 1 [[yE],[yC]],yw,yy,C 1 [[yC]]]
abbrev yb:=C 8 [[yF,yx,yD,J 4,yB,yF,I 10,yF],[yE,yx,yD,J 49,I 50,yF,I 4,yx],[yC,yx,I 1100,J 0,yF,yx,yF,yx]]
abbrev yc:=C 15 [[yx,yE,U 16 0 3 8,U 17 0 1 2,Z,U 18 0 1 8,Z,Z,yE,yA,yD,I 1200,S 21 0 1 1,U 23 0 1 2,U 24 0 1 1]]
abbrev yd:=C 8 [[I 106,I 10,U 19 0 1 1,U 20 0 1 1,J 19,yF,I 100,I 200]]
abbrev yz:=S 22 0 1 1
abbrev ye:=C 8 [[yx,yA,yz,Z,yx,yx,yx,yx]]
abbrev yf:cM:=[j5.ptr 15 0,U 25 0 1 8]
abbrev yg:=C 2 [[I 984,I 1011]]
abbrev yh:=C 2 [[yF,I 10]]
abbrev yi:List NB:=[yb,yh,C 8 [[I 106,I 10,U 18 0 1 1,U 19 0 1 1,J 19,yF,I 100,I 200],[I 202,yA,U 20 0 1 1,U 21 0 1 1,I 100,yF,yx,yx]],yy,yw,yw,yy,C 2 [[I 12,U 23 0 2 1]],C 1 [[yE],[yC]]]
abbrev yj:=C 1 [[I 28]]
abbrev yk:=S 15 0 10 10
abbrev yl:=A [yx,yE,U 15 0 3 8,U 16 0 1 2,Z,U 17 0 2 8,Z,U 22 0 1 2]
abbrev ym:cM:=[yx,yF,I 1005]
abbrev yn:=C 3 [[yC,I 1099,I 1101]]
abbrev yo:List NB:=[yn]
abbrev yp:cM:=[yF,yx,J 994]
abbrev yq:cM:=[yF,yE,yx]
abbrev yr:cM:=[yB,I 6,yx]
abbrev ys:cM:=[I 6,yB,yx]
abbrev yt:=V [U 22 0 1 3,yx]
abbrev yu:cM:=[A [I 9,U 15 0 22 3],j5.nilMap]
abbrev yv:cM:=[A [I 7,U 15 0 16 3],j5.nilMap]
end
end Go.Proofs.YtpmfjipaheolgaaGreatDoor.TT

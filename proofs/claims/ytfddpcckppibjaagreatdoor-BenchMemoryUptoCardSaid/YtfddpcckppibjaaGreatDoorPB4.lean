/- The tables as one tree, and what is known of the variables; no condition. -/
import Derived.Test.YtfddpcckppibjaaGreatDoorPB1
import Derived.Test.YtfddpcckppibjaaGreatDoorPB2
import Derived.Test.YtfddpcckppibjaaGreatDoorPB3
import Derived.Test.YtfddpcckppibjaaGreatDoorPB5
import Derived.Test.YtfddpcckppibjaaGreatDoorPB7
set_option linter.all false
namespace Go.Proofs.YtfddpcckppibjaaGreatDoor.TT
open Go Go.AM
set_option maxRecDepth 100000
noncomputable section
def tab:TtR λi=>i:=(vB (vB (vB (vB (dx (vB (dx (dx V9 aiC V9) ao6 V9) (dx (dx V9 aiI V9) aou V9)) aei (dx (dx V9 aog V9) ao1 (dx V9 ail V9))) (vB (vB (dx (dx V9 aiF V9) aoe (dx V9 aiO V9)) (dx V9 aif (dx V9 aiR V9))) (dx (dx V9 aoo V9) ao4 (dx V9 aiu V9)))) (vB (vB (dx (dx V9 aoa V9) anV V9) (vB (dx V9 aok V9) (dx V9 aiq V9))) (vB V9 (vB (dx V9 aor V9) (dx V9 aiy V9))))) (dx (vB (dx (dx (dx V9 ao8 V9) anT V9) anO (dx (dx V9 aoi V9) ao3 (dx (dx V9 aiJ V9) aio V9))) (vB V9 (vB V9 (dx V9 aiw V9)))) is5 (dx (vB (dx (dx (dx V9 aiD V9) aoc (dx V9 aiN V9)) anX (vB V9 (dx V9 aiQ V9))) (vB (dx (dx V9 aiH V9) aom V9) (dx (dx V9 aiK V9) ais V9))) anN (dx (dx V9 anZ (dx V9 aij V9)) anR (vB (dx V9 aot V9) (dx V9 aiA V9)))))) (vB (vB (dx (dx (dx (dx V9 ao7 V9) is32 V9) is16 (dx (dx V9 aoh V9) ao2 (dx V9 ain (dx V9 aiT V9)))) is8 (vB (vB (dx (dx V9 aiG V9) aof (dx V9 aiP V9)) V9) (vB (dx V9 aop V9) (dx V9 aiv V9)))) (dx (vB (dx (dx V9 aob (dx V9 aiM V9)) anW V9) (vB (dx V9 aol V9) (dx V9 air V9))) anM (dx (vB V9 (dx V9 aii V9)) anQ (vB (dx V9 aos V9) (dx V9 aiz V9))))) (dx (vB (vB (dx (dx V9 ao9 V9) anU V9) (vB (dx V9 aoj V9) (dx V9 aip V9))) (vB V9 (vB (dx V9 aoq V9) (dx V9 aix (dx V9 aiU V9))))) is6 (vB (dx (dx (dx (dx V9 aiE V9) aod V9) anY V9) anP (vB (dx V9 aon V9) (dx (dx V9 aiL V9) ait V9))) (dx (dx V9 ao0 (dx V9 aik (dx V9 aiS V9))) anS (dx V9 ao5 (dx V9 aiB V9)))))))
def fns (f:FuncId):Option T9:=orQ (tab.1.get f) (fnQ Tryz.prog mQ mP mR f)
theorem jC (f:Nat)(hb:Nat.testBit mQ f=true):(OW Tryz.prog (vg Tryz.prog f) f).isSome=true:=by
 by_cases h0:f<102;have:=vV qa0 (f-0) (by omega) (by rw [show 0+(f-0)=f from by omega];exact hb)
 rwa [show 0+(f-0)=f from by omega] at this
 by_cases h1:f<204;have:=vV qa1 (f-102) (by omega) (by rw [show 102+(f-102)=f from by omega];exact hb)
 rwa [show 102+(f-102)=f from by omega] at this
 by_cases h2:f<306;have:=vV qa2 (f-204) (by omega) (by rw [show 204+(f-204)=f from by omega];exact hb)
 rwa [show 204+(f-204)=f from by omega] at this
 by_cases a:f<408;have:=vV qa3 (f-306) (by omega) (by rw [show 306+(f-306)=f from by omega];exact hb)
 rwa [show 306+(f-306)=f from by omega] at this
 by_cases h4:f<510;have:=vV qa4 (f-408) (by omega) (by rw [show 408+(f-408)=f from by omega];exact hb)
 rwa [show 408+(f-408)=f from by omega] at this
 by_cases h5:f<612;have:=vV qa5 (f-510) (by omega) (by rw [show 510+(f-510)=f from by omega];exact hb)
 rwa [show 510+(f-510)=f from by omega] at this
 have a:Nat.testBit (mQ >>> 612) (f-612)=Nat.testBit mQ (612+(f-612)):=Nat.testBit_shiftRight mQ;rw [show mQ >>> 612=0 from by decide,show 612+(f-612)=f from by omega,hb,Nat.zero_testBit] at a;cases a
theorem Qj:∀f sf,fns f=some sf->qx Tryz.prog f sf:=adP tab.2 jC
noncomputable abbrev cM (f:FuncId):T9:=cT Tryz.prog (vg Tryz.prog f) (Nat.testBit mP f) (Nat.testBit mR f) f
theorem aiV:aW 53 (cM 53):=fG (jC 53 (by decide))
theorem acy:aW 220 (cM 220):=fG (jC 220 (by decide))
theorem aov:aW 20 (cM 20):=fG (jC 20 (by decide))
theorem aek:aW 21 (cM 21):=fG (jC 21 (by decide))
theorem acz:aW 253 (cM 253):=fG (jC 253 (by decide))
theorem aiW:aW 270 (cM 270):=fG (jC 270 (by decide))
theorem aiX:aW 274 (cM 274):=fG (jC 274 (by decide))
theorem Xj:aW 295 (cM 295):=fG (jC 295 (by decide))
theorem acA:aW 356 (cM 356):=fG (jC 356 (by decide))
theorem acB:aW 453 (cM 453):=fG (jC 453 (by decide))
theorem acC:aW 454 (cM 454):=fG (jC 454 (by decide))
theorem Ru:aW 547 (cM 547):=fG (jC 547 (by decide))
theorem is7:aW 7 (cM 7):=fG (jC 7 (by decide))
theorem aiY:aW 18 (cM 18):=fG (jC 18 (by decide))
def nsA:List Int:=[0,0,0,0,0,0,0,0,0,1,1,1,1,1,0,0,0,0,0,0,0,0,0,0,0,0,0,0,0,0,0,0,1,0,0,0,0,0,0,0,0,0,0,0,0,0,0,0,0,0,0,0,0,0,0,0,0,0,0,0,0,0,0,0,0,0,0,0,0,0,0,0,0,0,0,0,0,0,0,0,0,0,0,0,0,0,0,0,0,0,0,0,0,0,0,0,0,0,0,0,0,0,0,0,0,0,0,0,0,0,0,0,0,0,0,0,0,0,0,0,0,0,0,0,0,0,0,0,0,0,0,0,0,0,0,0,0,0,0,0,0,0,0,0,0,0,0,0,0,0,0,0,0,0,0,0,0,0,0,0,0,0,0,0,0,0,0,0,0,0,0,0,0,0,0,0,0,0,0,0,0,0,0,0,0,0,0,0,0,0,0,0,0,0,0,0,0,0,0,0,0,0,0,0,0,0,0,0,0,0,0,0,0,0,0,0,0,0,0,0,0,0,0,0,0,0,0,0,0,0,0,0,0,0,0,0,0,0,0,0,0,0,0,0,0,0,0,0,0,0,0,0,0,0,0,0]
def nsP:List Int:=[1,10,100,1000,10000,100000,1000000,10000000,100000000,1000000000,10000000000,100000000000,1000000000000,10000000000000,100000000000000,1000000000000000,10000000000000000,100000000000000000,1000000000000000000,10000000000000000000]
def Df:List NB:=[.cells 1 [[.iface 432 (.ptr 11 0)]],.cells 1 [[.iface 432 (.ptr 12 0)]],.dead,.cells 256 [[.int .u8 0,.int .u8 0,.int .u8 0,.int .u8 0,.int .u8 0,.int .u8 0,.int .u8 0,.int .u8 0,.int .u8 0,.int .u8 1,.int .u8 1,.int .u8 1,.int .u8 1,.int .u8 1,.int .u8 0,.int .u8 0,.int .u8 0,.int .u8 0,.int .u8 0,.int .u8 0,.int .u8 0,.int .u8 0,.int .u8 0,.int .u8 0,.int .u8 0,.int .u8 0,.int .u8 0,.int .u8 0,.int .u8 0,.int .u8 0,.int .u8 0,.int .u8 0,.int .u8 1,.int .u8 0,.int .u8 0,.int .u8 0,.int .u8 0,.int .u8 0,.int .u8 0,.int .u8 0,.int .u8 0,.int .u8 0,.int .u8 0,.int .u8 0,.int .u8 0,.int .u8 0,.int .u8 0,.int .u8 0,.int .u8 0,.int .u8 0,.int .u8 0,.int .u8 0,.int .u8 0,.int .u8 0,.int .u8 0,.int .u8 0,.int .u8 0,.int .u8 0,.int .u8 0,.int .u8 0,.int .u8 0,.int .u8 0,.int .u8 0,.int .u8 0,.int .u8 0,.int .u8 0,.int .u8 0,.int .u8 0,.int .u8 0,.int .u8 0,.int .u8 0,.int .u8 0,.int .u8 0,.int .u8 0,.int .u8 0,.int .u8 0,.int .u8 0,.int .u8 0,.int .u8 0,.int .u8 0,.int .u8 0,.int .u8 0,.int .u8 0,.int .u8 0,.int .u8 0,.int .u8 0,.int .u8 0,.int .u8 0,.int .u8 0,.int .u8 0,.int .u8 0,.int .u8 0,.int .u8 0,.int .u8 0,.int .u8 0,.int .u8 0,.int .u8 0,.int .u8 0,.int .u8 0,.int .u8 0,.int .u8 0,.int .u8 0,.int .u8 0,.int .u8 0,.int .u8 0,.int .u8 0,.int .u8 0,.int .u8 0,.int .u8 0,.int .u8 0,.int .u8 0,.int .u8 0,.int .u8 0,.int .u8 0,.int .u8 0,.int .u8 0,.int .u8 0,.int .u8 0,.int .u8 0,.int .u8 0,.int .u8 0,.int .u8 0,.int .u8 0,.int .u8 0,.int .u8 0,.int .u8 0,.int .u8 0,.int .u8 0,.int .u8 0,.int .u8 0,.int .u8 0,.int .u8 0,.int .u8 0,.int .u8 0,.int .u8 0,.int .u8 0,.int .u8 0,.int .u8 0,.int .u8 0,.int .u8 0,.int .u8 0,.int .u8 0,.int .u8 0,.int .u8 0,.int .u8 0,.int .u8 0,.int .u8 0,.int .u8 0,.int .u8 0,.int .u8 0,.int .u8 0,.int .u8 0,.int .u8 0,.int .u8 0,.int .u8 0,.int .u8 0,.int .u8 0,.int .u8 0,.int .u8 0,.int .u8 0,.int .u8 0,.int .u8 0,.int .u8 0,.int .u8 0,.int .u8 0,.int .u8 0,.int .u8 0,.int .u8 0,.int .u8 0,.int .u8 0,.int .u8 0,.int .u8 0,.int .u8 0,.int .u8 0,.int .u8 0,.int .u8 0,.int .u8 0,.int .u8 0,.int .u8 0,.int .u8 0,.int .u8 0,.int .u8 0,.int .u8 0,.int .u8 0,.int .u8 0,.int .u8 0,.int .u8 0,.int .u8 0,.int .u8 0,.int .u8 0,.int .u8 0,.int .u8 0,.int .u8 0,.int .u8 0,.int .u8 0,.int .u8 0,.int .u8 0,.int .u8 0,.int .u8 0,.int .u8 0,.int .u8 0,.int .u8 0,.int .u8 0,.int .u8 0,.int .u8 0,.int .u8 0,.int .u8 0,.int .u8 0,.int .u8 0,.int .u8 0,.int .u8 0,.int .u8 0,.int .u8 0,.int .u8 0,.int .u8 0,.int .u8 0,.int .u8 0,.int .u8 0,.int .u8 0,.int .u8 0,.int .u8 0,.int .u8 0,.int .u8 0,.int .u8 0,.int .u8 0,.int .u8 0,.int .u8 0,.int .u8 0,.int .u8 0,.int .u8 0,.int .u8 0,.int .u8 0,.int .u8 0,.int .u8 0,.int .u8 0,.int .u8 0,.int .u8 0,.int .u8 0,.int .u8 0,.int .u8 0,.int .u8 0,.int .u8 0,.int .u8 0,.int .u8 0,.int .u8 0,.int .u8 0,.int .u8 0,.int .u8 0,.int .u8 0,.int .u8 0,.int .u8 0,.int .u8 0,.int .u8 0,.int .u8 0,.int .u8 0,.int .u8 0]],.cells 20 [[.int .u64 1,.int .u64 10,.int .u64 100,.int .u64 1000,.int .u64 10000,.int .u64 100000,.int .u64 1000000,.int .u64 10000000,.int .u64 100000000,.int .u64 1000000000,.int .u64 10000000000,.int .u64 100000000000,.int .u64 1000000000000,.int .u64 10000000000000,.int .u64 100000000000000,.int .u64 1000000000000000,.int .u64 10000000000000000,.int .u64 100000000000000000,.int .u64 1000000000000000000,.int .u64 10000000000000000000]],.dead,.dead,.dead,.dead,.dead,.dead,.dead,.dead]
def base:Mem:=layAll Df ⟨.e,0,0⟩
theorem vZ:EG base Df:=by
 refine⟨?_,rfl,?_,?_⟩;have:T.Ok (T.ofList (Df.map iU)) 13:=T.eB (Df.map iU);exact this;intro i a;have h:base.nx=13:=rfl;rw [h] at a;match i,a with
 | 0,_=>rfl
 | 1,_=>rfl
 | 2,_=>rfl
 | 3,_=>rfl
 | 4,_=>rfl
 | 5,_=>rfl
 | 6,_=>rfl
 | 7,_=>rfl
 | 8,_=>rfl
 | 9,_=>rfl
 | 10,_=>rfl
 | 11,_=>rfl
 | 12,_=>rfl
 intro b h;simp only [Df,Z4,ajf,or_false] at h;rcases h with rfl | rfl | rfl | rfl | rfl | rfl | rfl | rfl | rfl | rfl | rfl | rfl | rfl<;>rfl
theorem mixed:Tryz.prog.follows .mixedOrders=true:=by kernel_rfl
end
end Go.Proofs.YtfddpcckppibjaaGreatDoor.TT

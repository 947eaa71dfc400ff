/- The tables as one tree, and what is known of the variables; no condition. -/
import Derived.Test.YteecnooaopfkeaaGreatDoorPB1
import Derived.Test.YteecnooaopfkeaaGreatDoorPB2
import Derived.Test.YteecnooaopfkeaaGreatDoorPB3
import Derived.Test.YteecnooaopfkeaaGreatDoorPB5
import Derived.Test.YteecnooaopfkeaaGreatDoorPB7
set_option linter.all false
namespace Go.Proofs.YteecnooaopfkeaaGreatDoor.TT
open Go Go.AM
set_option maxRecDepth 100000
noncomputable section
def tab:TtR λi=>i:=(tH (tH (tH (dY (dY (tH aI (dY (dY aI ahO aI) ao7 aI)) anq (dY (dY aI anY aI) anH (tH (dY aI ahU aI) aI))) is7 (tH (dY aI anC (dY aI ahA aI)) (tH (dY aI ao6 aI) aI))) (tH (dY (dY (dY aI anN aI) anx (tH (dY aI ahS aI) (dY aI ai4 aI))) ant (dY (dY aI ao2 aI) anK (dY (dY aI ahY aI) ahJ aI))) (tH (tH (dY aI anU aI) (dY aI ahE aI)) (tH aI (tH (dY aI ai2 aI) aI))))) (dY (tH (dY (dY aI anv (dY (dY aI ahQ aI) ao8 aI)) anr (tH (dY aI ao0 aI) (dY (dY aI ahW aI) ahH aI))) (tH (dY (dY aI anS aI) anE (dY aI ahC aI)) aI)) is5 (dY (tH (dY (dY aI anP aI) anA (dY aI ahz aI)) (tH (dY aI ao4 aI) (dY (dY aI ai0 aI) ahL aI))) ano (tH (dY (dY aI anW aI) anG aI) aI)))) (tH (tH (tH (dY (dY aI is32 (tH (dY aI ahP aI) aI)) is16 (dY (dY aI anZ aI) anI (dY (dY aI ahV aI) ahG aI))) (tH (dY (dY aI anR aI) anD (dY aI ahB aI)) aI)) (tH (dY (dY (dY aI anO aI) anz (tH (dY (dY aI ai6 aI) ahT aI) (dY aI ai5 aI))) anu (dY (dY aI ao3 (dY aI ai3 aI)) anL (dY (dY aI ahZ aI) ahK aI))) (tH (tH (dY (dY aI ahN aI) anV aI) (dY aI ahF aI)) aI))) (tH (tH (dY (dY (tH (dY aI ahM aI) aI) anw (tH (dY aI ahR aI) aI)) adx (dY (dY aI ao1 aI) anJ (dY (dY aI ahX aI) ahI aI))) (tH (dY (dY aI anT aI) anF (dY aI ahD aI)) aI)) (dY (tH (dY (dY aI anQ aI) anB aI) (dY (dY aI ao5 aI) anM (tH (dY aI ai1 aI) aI))) anp (tH (tH (dY aI anX aI) aI) aI)))))
def fns (f:FuncId):Option W9:=orQ (tab.1.get f) (fnQ Tryz.prog mQ mP mR f)
theorem kC (f:Nat)(hb:Nat.testBit mQ f=true):(OP Tryz.prog (vg Tryz.prog f) f).isSome=true:=by
 by_cases h0:f<103;have:=vV qa0 (f-0) (by omega) (by rw [show 0+(f-0)=f from by omega];exact hb)
 rwa [show 0+(f-0)=f from by omega] at this
 by_cases h1:f<206;have:=vV Zw (f-103) (by omega) (by rw [show 103+(f-103)=f from by omega];exact hb)
 rwa [show 103+(f-103)=f from by omega] at this
 by_cases h2:f<309;have:=vV Zx (f-206) (by omega) (by rw [show 206+(f-206)=f from by omega];exact hb)
 rwa [show 206+(f-206)=f from by omega] at this
 by_cases a:f<412;have:=vV Zy (f-309) (by omega) (by rw [show 309+(f-309)=f from by omega];exact hb)
 rwa [show 309+(f-309)=f from by omega] at this
 by_cases h4:f<515;have:=vV qa4 (f-412) (by omega) (by rw [show 412+(f-412)=f from by omega];exact hb)
 rwa [show 412+(f-412)=f from by omega] at this
 by_cases h5:f<618;have:=vV qa5 (f-515) (by omega) (by rw [show 515+(f-515)=f from by omega];exact hb)
 rwa [show 515+(f-515)=f from by omega] at this
 have a:Nat.testBit (mQ >>> 618) (f-618)=Nat.testBit mQ (618+(f-618)):=Nat.testBit_shiftRight mQ;rw [show mQ >>> 618=0 from by decide,show 618+(f-618)=f from by omega,hb,Nat.zero_testBit] at a;cases a
theorem Qa:∀f sf,fns f=some sf->qg Tryz.prog f sf:=acZ tab.2 kC
noncomputable abbrev cM (f:FuncId):W9:=cT Tryz.prog (vg Tryz.prog f) (Nat.testBit mP f) (Nat.testBit mR f) f
theorem ai7:bN 10 (cM 10):=gD (kC 10 (by decide))
theorem abH:bN 207 (cM 207):=gD (kC 207 (by decide))
theorem ao9:bN 22 (cM 22):=gD (kC 22 (by decide))
theorem adA:bN 23 (cM 23):=gD (kC 23 (by decide))
theorem abI:bN 233 (cM 233):=gD (kC 233 (by decide))
theorem ai8:bN 250 (cM 250):=gD (kC 250 (by decide))
theorem ai9:bN 254 (cM 254):=gD (kC 254 (by decide))
theorem WA:bN 275 (cM 275):=gD (kC 275 (by decide))
theorem abJ:bN 336 (cM 336):=gD (kC 336 (by decide))
theorem abK:bN 441 (cM 441):=gD (kC 441 (by decide))
theorem abL:bN 442 (cM 442):=gD (kC 442 (by decide))
theorem Ri:bN 553 (cM 553):=gD (kC 553 (by decide))
theorem is8:bN 8 (cM 8):=gD (kC 8 (by decide))
def nsA:List Int:=[0,0,0,0,0,0,0,0,0,1,1,1,1,1,0,0,0,0,0,0,0,0,0,0,0,0,0,0,0,0,0,0,1,0,0,0,0,0,0,0,0,0,0,0,0,0,0,0,0,0,0,0,0,0,0,0,0,0,0,0,0,0,0,0,0,0,0,0,0,0,0,0,0,0,0,0,0,0,0,0,0,0,0,0,0,0,0,0,0,0,0,0,0,0,0,0,0,0,0,0,0,0,0,0,0,0,0,0,0,0,0,0,0,0,0,0,0,0,0,0,0,0,0,0,0,0,0,0,0,0,0,0,0,0,0,0,0,0,0,0,0,0,0,0,0,0,0,0,0,0,0,0,0,0,0,0,0,0,0,0,0,0,0,0,0,0,0,0,0,0,0,0,0,0,0,0,0,0,0,0,0,0,0,0,0,0,0,0,0,0,0,0,0,0,0,0,0,0,0,0,0,0,0,0,0,0,0,0,0,0,0,0,0,0,0,0,0,0,0,0,0,0,0,0,0,0,0,0,0,0,0,0,0,0,0,0,0,0,0,0,0,0,0,0,0,0,0,0,0,0,0,0,0,0,0,0]
def nsP:List Int:=[1,10,100,1000,10000,100000,1000000,10000000,100000000,1000000000,10000000000,100000000000,1000000000000,10000000000000,100000000000000,1000000000000000,10000000000000000,100000000000000000,1000000000000000000,10000000000000000000]
def Dn:List NB:=[.cells 1 [[.iface 361 (.ptr 11 0)]],.cells 1 [[.iface 361 (.ptr 12 0)]],.dead,.cells 20 [[.int .u64 1,.int .u64 10,.int .u64 100,.int .u64 1000,.int .u64 10000,.int .u64 100000,.int .u64 1000000,.int .u64 10000000,.int .u64 100000000,.int .u64 1000000000,.int .u64 10000000000,.int .u64 100000000000,.int .u64 1000000000000,.int .u64 10000000000000,.int .u64 100000000000000,.int .u64 1000000000000000,.int .u64 10000000000000000,.int .u64 100000000000000000,.int .u64 1000000000000000000,.int .u64 10000000000000000000]],.cells 256 [[.int .u8 0,.int .u8 0,.int .u8 0,.int .u8 0,.int .u8 0,.int .u8 0,.int .u8 0,.int .u8 0,.int .u8 0,.int .u8 1,.int .u8 1,.int .u8 1,.int .u8 1,.int .u8 1,.int .u8 0,.int .u8 0,.int .u8 0,.int .u8 0,.int .u8 0,.int .u8 0,.int .u8 0,.int .u8 0,.int .u8 0,.int .u8 0,.int .u8 0,.int .u8 0,.int .u8 0,.int .u8 0,.int .u8 0,.int .u8 0,.int .u8 0,.int .u8 0,.int .u8 1,.int .u8 0,.int .u8 0,.int .u8 0,.int .u8 0,.int .u8 0,.int .u8 0,.int .u8 0,.int .u8 0,.int .u8 0,.int .u8 0,.int .u8 0,.int .u8 0,.int .u8 0,.int .u8 0,.int .u8 0,.int .u8 0,.int .u8 0,.int .u8 0,.int .u8 0,.int .u8 0,.int .u8 0,.int .u8 0,.int .u8 0,.int .u8 0,.int .u8 0,.int .u8 0,.int .u8 0,.int .u8 0,.int .u8 0,.int .u8 0,.int .u8 0,.int .u8 0,.int .u8 0,.int .u8 0,.int .u8 0,.int .u8 0,.int .u8 0,.int .u8 0,.int .u8 0,.int .u8 0,.int .u8 0,.int .u8 0,.int .u8 0,.int .u8 0,.int .u8 0,.int .u8 0,.int .u8 0,.int .u8 0,.int .u8 0,.int .u8 0,.int .u8 0,.int .u8 0,.int .u8 0,.int .u8 0,.int .u8 0,.int .u8 0,.int .u8 0,.int .u8 0,.int .u8 0,.int .u8 0,.int .u8 0,.int .u8 0,.int .u8 0,.int .u8 0,.int .u8 0,.int .u8 0,.int .u8 0,.int .u8 0,.int .u8 0,.int .u8 0,.int .u8 0,.int .u8 0,.int .u8 0,.int .u8 0,.int .u8 0,.int .u8 0,.int .u8 0,.int .u8 0,.int .u8 0,.int .u8 0,.int .u8 0,.int .u8 0,.int .u8 0,.int .u8 0,.int .u8 0,.int .u8 0,.int .u8 0,.int .u8 0,.int .u8 0,.int .u8 0,.int .u8 0,.int .u8 0,.int .u8 0,.int .u8 0,.int .u8 0,.int .u8 0,.int .u8 0,.int .u8 0,.int .u8 0,.int .u8 0,.int .u8 0,.int .u8 0,.int .u8 0,.int .u8 0,.int .u8 0,.int .u8 0,.int .u8 0,.int .u8 0,.int .u8 0,.int .u8 0,.int .u8 0,.int .u8 0,.int .u8 0,.int .u8 0,.int .u8 0,.int .u8 0,.int .u8 0,.int .u8 0,.int .u8 0,.int .u8 0,.int .u8 0,.int .u8 0,.int .u8 0,.int .u8 0,.int .u8 0,.int .u8 0,.int .u8 0,.int .u8 0,.int .u8 0,.int .u8 0,.int .u8 0,.int .u8 0,.int .u8 0,.int .u8 0,.int .u8 0,.int .u8 0,.int .u8 0,.int .u8 0,.int .u8 0,.int .u8 0,.int .u8 0,.int .u8 0,.int .u8 0,.int .u8 0,.int .u8 0,.int .u8 0,.int .u8 0,.int .u8 0,.int .u8 0,.int .u8 0,.int .u8 0,.int .u8 0,.int .u8 0,.int .u8 0,.int .u8 0,.int .u8 0,.int .u8 0,.int .u8 0,.int .u8 0,.int .u8 0,.int .u8 0,.int .u8 0,.int .u8 0,.int .u8 0,.int .u8 0,.int .u8 0,.int .u8 0,.int .u8 0,.int .u8 0,.int .u8 0,.int .u8 0,.int .u8 0,.int .u8 0,.int .u8 0,.int .u8 0,.int .u8 0,.int .u8 0,.int .u8 0,.int .u8 0,.int .u8 0,.int .u8 0,.int .u8 0,.int .u8 0,.int .u8 0,.int .u8 0,.int .u8 0,.int .u8 0,.int .u8 0,.int .u8 0,.int .u8 0,.int .u8 0,.int .u8 0,.int .u8 0,.int .u8 0,.int .u8 0,.int .u8 0,.int .u8 0,.int .u8 0,.int .u8 0,.int .u8 0,.int .u8 0,.int .u8 0,.int .u8 0,.int .u8 0,.int .u8 0,.int .u8 0,.int .u8 0,.int .u8 0,.int .u8 0,.int .u8 0,.int .u8 0,.int .u8 0,.int .u8 0,.int .u8 0,.int .u8 0,.int .u8 0,.int .u8 0,.int .u8 0,.int .u8 0,.int .u8 0,.int .u8 0,.int .u8 0,.int .u8 0]],.dead,.dead,.dead,.dead,.dead,.dead,.dead,.dead]
def base:Mem:=layAll Dn ⟨.e,0,0⟩
theorem vZ:EO base Dn:=by
 refine⟨?_,rfl,?_,?_⟩;have:T.Ok (T.ofList (Dn.map iQ)) 13:=T.eF (Dn.map iQ);exact this;intro i a;have h:base.nx=13:=rfl;rw [h] at a;match i,a with
 | 0,_=>rfl
 | 1,_=>rfl
 | 2,_=>rfl
 | 3,_=>rfl
 | 4,_=>rfl
 | 5,_=>rfl
 | 6,_=>rfl
 | 7,_=>rfl
 | 8,_=>rfl
 | 9,_=>rfl
 | 10,_=>rfl
 | 11,_=>rfl
 | 12,_=>rfl
 intro b h;simp only [Dn,Z9,ahw,or_false] at h;rcases h with rfl | rfl | rfl | rfl | rfl | rfl | rfl | rfl | rfl | rfl | rfl | rfl | rfl<;>rfl
theorem mixed:Tryz.prog.follows .mixedOrders=true:=by kernel_rfl
end
end Go.Proofs.YteecnooaopfkeaaGreatDoor.TT

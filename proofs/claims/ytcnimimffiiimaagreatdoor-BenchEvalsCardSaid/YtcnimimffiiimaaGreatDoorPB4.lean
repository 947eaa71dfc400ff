/- The tables as one tree, and what is known of the variables; no condition. -/
import Derived.Test.YtcnimimffiiimaaGreatDoorPB1
import Derived.Test.YtcnimimffiiimaaGreatDoorPB2
import Derived.Test.YtcnimimffiiimaaGreatDoorPB3
import Derived.Test.YtcnimimffiiimaaGreatDoorPB5
import Derived.Test.YtcnimimffiiimaaGreatDoorPB7
set_option linter.all false
namespace Go.Proofs.YtcnimimffiiimaaGreatDoor.TT
open Go Go.AM
set_option maxRecDepth 100000
noncomputable section
def tab:TtR λi=>i:=(Pp (Pp (R7 (Pp (R7 (R7 (R7 (R7 P8 ahg P8) anH P8) ane (R7 (R7 P8 ahr P8) aob P8)) ac8 (R7 (R7 P8 anX P8) anv (R7 P8 ah0 P8))) (R7 (R7 (R7 (R7 P8 aho P8) anP (R7 P8 ahA P8)) anl (R7 P8 agS (R7 P8 ahD P8))) an5 (R7 (R7 P8 ao5 P8) anz (R7 P8 ah8 P8)))) is3 (R7 (Pp (R7 (R7 (R7 P8 ahk P8) anL P8) anh P8) (Pp (R7 P8 ao1 P8) (R7 P8 ah4 P8))) amZ (R7 (R7 (R7 P8 anT P8) anq (R7 P8 agW P8)) an9 (R7 (R7 P8 ao8 P8) anD (R7 P8 ahc P8))))) (R7 (R7 (R7 (R7 (R7 (R7 P8 ahi P8) anJ P8) anf P8) an3 (R7 (R7 P8 anZ P8) anx (R7 (R7 P8 ahs P8) ah2 P8))) is9 (R7 (R7 (R7 P8 anR P8) ano (R7 P8 agU P8)) an7 (R7 P8 anB (R7 P8 aha P8)))) is5 (R7 (Pp (R7 (R7 (R7 P8 ahm P8) anN (R7 P8 ahy P8)) anj (Pp P8 (R7 P8 ahC P8))) (Pp (R7 (R7 P8 ahq P8) ao3 P8) (R7 (R7 P8 aht P8) ah6 P8))) an1 (R7 (R7 (R7 P8 anV P8) ant (R7 P8 agY P8)) anb (R7 (R7 P8 aoa P8) anF (R7 P8 ahe P8)))))) (Pp (R7 (R7 (R7 (R7 (R7 (R7 P8 ahh P8) anI (R7 P8 ahw P8)) is32 P8) is16 (R7 (R7 P8 anY P8) anw (R7 P8 ah1 (R7 P8 ahF P8)))) is8 (R7 (R7 (R7 (R7 P8 ahp P8) anQ (R7 P8 ahB P8)) anm (R7 P8 agT P8)) an6 (R7 (R7 P8 ao6 P8) anA (R7 P8 ah9 P8)))) is4 (R7 (Pp (R7 (R7 (R7 P8 ahl P8) anM (R7 P8 ahx P8)) ani P8) (Pp (R7 P8 ao2 P8) (R7 P8 ah5 P8))) an0 (R7 (R7 (R7 P8 anU P8) anr (R7 P8 agX P8)) ana (R7 (R7 P8 ao9 P8) anE (R7 (R7 P8 ahv P8) ahd P8))))) (R7 (R7 (Pp (R7 (R7 (R7 P8 ahj P8) anK P8) ang P8) (Pp (R7 P8 ao0 P8) (R7 P8 ah3 P8))) amY (R7 (R7 (R7 P8 anS P8) anp (R7 P8 agV P8)) an8 (R7 (R7 P8 ao7 P8) anC (R7 P8 ahb (R7 P8 ahG P8))))) is6 (R7 (R7 (R7 (R7 (R7 P8 ahn P8) anO (R7 P8 ahz P8)) ank P8) an4 (Pp (R7 P8 ao4 P8) (R7 (R7 P8 ahu P8) ah7 P8))) an2 (R7 (R7 (R7 P8 anW P8) anu (R7 P8 agZ (R7 P8 ahE P8))) anc (R7 P8 anG (R7 P8 ahf P8)))))))
def fns (f:FuncId):Option M9:=orQ (tab.1.get f) (fnQ Tryz.prog mQ mP mR f)
theorem iB (f:Nat)(hb:Nat.testBit mQ f=true):(MX Tryz.prog (tK Tryz.prog f) f).isSome=true:=by
 by_cases h0:f<102;have:=uD qa0 (f-0) (by omega) (by rw [show 0+(f-0)=f from by omega];exact hb)
 rwa [show 0+(f-0)=f from by omega] at this
 by_cases h1:f<204;have:=uD qa1 (f-102) (by omega) (by rw [show 102+(f-102)=f from by omega];exact hb)
 rwa [show 102+(f-102)=f from by omega] at this
 by_cases h2:f<306;have:=uD qa2 (f-204) (by omega) (by rw [show 204+(f-204)=f from by omega];exact hb)
 rwa [show 204+(f-204)=f from by omega] at this
 by_cases a:f<408;have:=uD qa3 (f-306) (by omega) (by rw [show 306+(f-306)=f from by omega];exact hb)
 rwa [show 306+(f-306)=f from by omega] at this
 by_cases h4:f<510;have:=uD qa4 (f-408) (by omega) (by rw [show 408+(f-408)=f from by omega];exact hb)
 rwa [show 408+(f-408)=f from by omega] at this
 by_cases h5:f<612;have:=uD qa5 (f-510) (by omega) (by rw [show 510+(f-510)=f from by omega];exact hb)
 rwa [show 510+(f-510)=f from by omega] at this
 have a:Nat.testBit (mQ >>> 612) (f-612)=Nat.testBit mQ (612+(f-612)):=Nat.testBit_shiftRight mQ;rw [show mQ >>> 612=0 from by decide,show 612+(f-612)=f from by omega,hb,Nat.zero_testBit] at a;cases a
theorem Oe:∀f sf,fns f=some sf->oO Tryz.prog f sf:=abM tab.2 iB
noncomputable abbrev cM (f:FuncId):M9:=cT Tryz.prog (tK Tryz.prog f) (Nat.testBit mP f) (Nat.testBit mR f) f
theorem ahH:P6 53 (cM 53):=dR (iB 53 (by decide))
theorem aaD:P6 220 (cM 220):=dR (iB 220 (by decide))
theorem aoc:P6 20 (cM 20):=dR (iB 20 (by decide))
theorem aci:P6 21 (cM 21):=dR (iB 21 (by decide))
theorem aaE:P6 253 (cM 253):=dR (iB 253 (by decide))
theorem ahI:P6 270 (cM 270):=dR (iB 270 (by decide))
theorem ahJ:P6 274 (cM 274):=dR (iB 274 (by decide))
theorem Vj:P6 295 (cM 295):=dR (iB 295 (by decide))
theorem aaF:P6 356 (cM 356):=dR (iB 356 (by decide))
theorem aaG:P6 453 (cM 453):=dR (iB 453 (by decide))
theorem aaH:P6 454 (cM 454):=dR (iB 454 (by decide))
theorem Px:P6 547 (cM 547):=dR (iB 547 (by decide))
theorem is7:P6 7 (cM 7):=dR (iB 7 (by decide))
theorem ahK:P6 18 (cM 18):=dR (iB 18 (by decide))
def nsA:List Int:=[0,0,0,0,0,0,0,0,0,1,1,1,1,1,0,0,0,0,0,0,0,0,0,0,0,0,0,0,0,0,0,0,1,0,0,0,0,0,0,0,0,0,0,0,0,0,0,0,0,0,0,0,0,0,0,0,0,0,0,0,0,0,0,0,0,0,0,0,0,0,0,0,0,0,0,0,0,0,0,0,0,0,0,0,0,0,0,0,0,0,0,0,0,0,0,0,0,0,0,0,0,0,0,0,0,0,0,0,0,0,0,0,0,0,0,0,0,0,0,0,0,0,0,0,0,0,0,0,0,0,0,0,0,0,0,0,0,0,0,0,0,0,0,0,0,0,0,0,0,0,0,0,0,0,0,0,0,0,0,0,0,0,0,0,0,0,0,0,0,0,0,0,0,0,0,0,0,0,0,0,0,0,0,0,0,0,0,0,0,0,0,0,0,0,0,0,0,0,0,0,0,0,0,0,0,0,0,0,0,0,0,0,0,0,0,0,0,0,0,0,0,0,0,0,0,0,0,0,0,0,0,0,0,0,0,0,0,0,0,0,0,0,0,0,0,0,0,0,0,0,0,0,0,0,0,0]
def nsP:List Int:=[1,10,100,1000,10000,100000,1000000,10000000,100000000,1000000000,10000000000,100000000000,1000000000000,10000000000000,100000000000000,1000000000000000,10000000000000000,100000000000000000,1000000000000000000,10000000000000000000]
def BI:List NB:=[.cells 1 [[.iface 432 (.ptr 11 0)]],.cells 1 [[.iface 432 (.ptr 12 0)]],.dead,.cells 256 [[.int .u8 0,.int .u8 0,.int .u8 0,.int .u8 0,.int .u8 0,.int .u8 0,.int .u8 0,.int .u8 0,.int .u8 0,.int .u8 1,.int .u8 1,.int .u8 1,.int .u8 1,.int .u8 1,.int .u8 0,.int .u8 0,.int .u8 0,.int .u8 0,.int .u8 0,.int .u8 0,.int .u8 0,.int .u8 0,.int .u8 0,.int .u8 0,.int .u8 0,.int .u8 0,.int .u8 0,.int .u8 0,.int .u8 0,.int .u8 0,.int .u8 0,.int .u8 0,.int .u8 1,.int .u8 0,.int .u8 0,.int .u8 0,.int .u8 0,.int .u8 0,.int .u8 0,.int .u8 0,.int .u8 0,.int .u8 0,.int .u8 0,.int .u8 0,.int .u8 0,.int .u8 0,.int .u8 0,.int .u8 0,.int .u8 0,.int .u8 0,.int .u8 0,.int .u8 0,.int .u8 0,.int .u8 0,.int .u8 0,.int .u8 0,.int .u8 0,.int .u8 0,.int .u8 0,.int .u8 0,.int .u8 0,.int .u8 0,.int .u8 0,.int .u8 0,.int .u8 0,.int .u8 0,.int .u8 0,.int .u8 0,.int .u8 0,.int .u8 0,.int .u8 0,.int .u8 0,.int .u8 0,.int .u8 0,.int .u8 0,.int .u8 0,.int .u8 0,.int .u8 0,.int .u8 0,.int .u8 0,.int .u8 0,.int .u8 0,.int .u8 0,.int .u8 0,.int .u8 0,.int .u8 0,.int .u8 0,.int .u8 0,.int .u8 0,.int .u8 0,.int .u8 0,.int .u8 0,.int .u8 0,.int .u8 0,.int .u8 0,.int .u8 0,.int .u8 0,.int .u8 0,.int .u8 0,.int .u8 0,.int .u8 0,.int .u8 0,.int .u8 0,.int .u8 0,.int .u8 0,.int .u8 0,.int .u8 0,.int .u8 0,.int .u8 0,.int .u8 0,.int .u8 0,.int .u8 0,.int .u8 0,.int .u8 0,.int .u8 0,.int .u8 0,.int .u8 0,.int .u8 0,.int .u8 0,.int .u8 0,.int .u8 0,.int .u8 0,.int .u8 0,.int .u8 0,.int .u8 0,.int .u8 0,.int .u8 0,.int .u8 0,.int .u8 0,.int .u8 0,.int .u8 0,.int .u8 0,.int .u8 0,.int .u8 0,.int .u8 0,.int .u8 0,.int .u8 0,.int .u8 0,.int .u8 0,.int .u8 0,.int .u8 0,.int .u8 0,.int .u8 0,.int .u8 0,.int .u8 0,.int .u8 0,.int .u8 0,.int .u8 0,.int .u8 0,.int .u8 0,.int .u8 0,.int .u8 0,.int .u8 0,.int .u8 0,.int .u8 0,.int .u8 0,.int .u8 0,.int .u8 0,.int .u8 0,.int .u8 0,.int .u8 0,.int .u8 0,.int .u8 0,.int .u8 0,.int .u8 0,.int .u8 0,.int .u8 0,.int .u8 0,.int .u8 0,.int .u8 0,.int .u8 0,.int .u8 0,.int .u8 0,.int .u8 0,.int .u8 0,.int .u8 0,.int .u8 0,.int .u8 0,.int .u8 0,.int .u8 0,.int .u8 0,.int .u8 0,.int .u8 0,.int .u8 0,.int .u8 0,.int .u8 0,.int .u8 0,.int .u8 0,.int .u8 0,.int .u8 0,.int .u8 0,.int .u8 0,.int .u8 0,.int .u8 0,.int .u8 0,.int .u8 0,.int .u8 0,.int .u8 0,.int .u8 0,.int .u8 0,.int .u8 0,.int .u8 0,.int .u8 0,.int .u8 0,.int .u8 0,.int .u8 0,.int .u8 0,.int .u8 0,.int .u8 0,.int .u8 0,.int .u8 0,.int .u8 0,.int .u8 0,.int .u8 0,.int .u8 0,.int .u8 0,.int .u8 0,.int .u8 0,.int .u8 0,.int .u8 0,.int .u8 0,.int .u8 0,.int .u8 0,.int .u8 0,.int .u8 0,.int .u8 0,.int .u8 0,.int .u8 0,.int .u8 0,.int .u8 0,.int .u8 0,.int .u8 0,.int .u8 0,.int .u8 0,.int .u8 0,.int .u8 0,.int .u8 0,.int .u8 0,.int .u8 0,.int .u8 0,.int .u8 0,.int .u8 0,.int .u8 0,.int .u8 0,.int .u8 0,.int .u8 0,.int .u8 0,.int .u8 0,.int .u8 0,.int .u8 0,.int .u8 0,.int .u8 0,.int .u8 0,.int .u8 0,.int .u8 0,.int .u8 0]],.cells 20 [[.int .u64 1,.int .u64 10,.int .u64 100,.int .u64 1000,.int .u64 10000,.int .u64 100000,.int .u64 1000000,.int .u64 10000000,.int .u64 100000000,.int .u64 1000000000,.int .u64 10000000000,.int .u64 100000000000,.int .u64 1000000000000,.int .u64 10000000000000,.int .u64 100000000000000,.int .u64 1000000000000000,.int .u64 10000000000000000,.int .u64 100000000000000000,.int .u64 1000000000000000000,.int .u64 10000000000000000000]],.dead,.dead,.dead,.dead,.dead,.dead,.dead,.dead]
def base:Mem:=layAll BI ⟨.e,0,0⟩
theorem uG:Di base BI:=by
 refine⟨?_,rfl,?_,?_⟩;have:T.Ok (T.ofList (BI.map fZ)) 13:=T.dZ (BI.map fZ);exact this;intro i a;have h:base.nx=13:=rfl;rw [h] at a;match i,a with
 | 0,_=>rfl
 | 1,_=>rfl
 | 2,_=>rfl
 | 3,_=>rfl
 | 4,_=>rfl
 | 5,_=>rfl
 | 6,_=>rfl
 | 7,_=>rfl
 | 8,_=>rfl
 | 9,_=>rfl
 | 10,_=>rfl
 | 11,_=>rfl
 | 12,_=>rfl
 intro b h;simp only [BI,X4,ajA,or_false] at h;rcases h with rfl | rfl | rfl | rfl | rfl | rfl | rfl | rfl | rfl | rfl | rfl | rfl | rfl<;>rfl
theorem mixed:Tryz.prog.follows .mixedOrders=true:=by kernel_rfl
end
end Go.Proofs.YtcnimimffiiimaaGreatDoor.TT

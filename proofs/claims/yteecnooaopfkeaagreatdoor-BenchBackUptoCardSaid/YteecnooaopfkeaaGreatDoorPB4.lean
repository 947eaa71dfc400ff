/- The tables as one tree, and what is known of the variables; no condition. -/
import Derived.Test.YteecnooaopfkeaaGreatDoorPB1
import Derived.Test.YteecnooaopfkeaaGreatDoorPB2
import Derived.Test.YteecnooaopfkeaaGreatDoorPB3
import Derived.Test.YteecnooaopfkeaaGreatDoorPB5
import Derived.Test.YteecnooaopfkeaaGreatDoorPB7
set_option linter.all false
namespace Go.Proofs.YteecnooaopfkeaaGreatDoor.TT
open Go Go.AM
set_option maxRecDepth 100000
noncomputable section
def tab:TtR λi=>i:=(uL (uL (jo (uL (jo (jo bO aoU (jo bO apl bO)) aoO (jo bO ap0 (uL (jo bO ajm bO) bO))) (uL (uL bO (jo bO ajc bO)) (jo bO ap3 bO))) is3 (uL (uL (jo (jo bO ap9 bO) aoX (jo bO apq (jo bO ajv bO))) (uL (jo bO apj bO) (jo (jo bO ajq bO) ajl bO))) (uL (uL (jo bO apg bO) (jo bO ajg bO)) (jo bO ap7 (uL (jo bO aju bO) bO))))) (uL (uL (uL (jo bO aoV (jo bO apn bO)) (jo bO ap2 (jo (jo bO ajo bO) ajj bO))) (jo (uL (jo bO ape bO) (jo bO aje bO)) aoQ (jo bO ap5 bO))) (jo (uL (uL (jo bO apb bO) bO) (uL bO (uL (jo bO ajs bO) bO))) aoM (jo (jo bO aoY bO) aoT (uL (jo bO apk bO) bO))))) (uL (jo (jo (uL (jo bO is32 (jo bO apm bO)) (jo bO ap1 (jo (jo bO ajn bO) aji bO))) is8 (jo (uL (jo bO apd bO) (jo bO ajd bO)) aoP (jo bO ap4 bO))) is4 (jo (uL (uL (jo bO apa bO) (jo (uL (jo bO ajx bO) bO) ajb (jo bO ajw bO))) (uL bO (uL (jo bO ajr bO) bO))) aoL (jo (uL (jo bO aph bO) (jo bO ajh bO)) aoS bO))) (jo (jo (uL (jo (jo bO ap8 bO) aoW (jo bO apo bO)) (uL bO (jo (jo bO ajp bO) ajk bO))) afz (jo (uL (jo bO apf bO) (jo bO ajf bO)) aoR (jo bO ap6 bO))) is6 (jo (uL (uL (jo bO apc bO) bO) (uL bO (uL (jo bO ajt bO) bO))) aoN (uL (jo bO aoZ bO) bO)))))
def fns (f:FuncId):Option aW:=orQ (tab.1.get f) (fnQ Tryz.prog mQ mP mR f)
theorem kV (f:Nat)(hb:Nat.testBit mQ f=true):(Ri Tryz.prog (wK Tryz.prog f) f).isSome=true:=by
 by_cases h0:f<103;have:=xO qa0 (f-0) (by omega) (by rw [show 0+(f-0)=f from by omega];exact hb)
 rwa [show 0+(f-0)=f from by omega] at this
 by_cases h1:f<206;have:=xO qa1 (f-103) (by omega) (by rw [show 103+(f-103)=f from by omega];exact hb)
 rwa [show 103+(f-103)=f from by omega] at this
 by_cases h2:f<309;have:=xO qa2 (f-206) (by omega) (by rw [show 206+(f-206)=f from by omega];exact hb)
 rwa [show 206+(f-206)=f from by omega] at this
 by_cases a:f<412;have:=xO qa3 (f-309) (by omega) (by rw [show 309+(f-309)=f from by omega];exact hb)
 rwa [show 309+(f-309)=f from by omega] at this
 by_cases h4:f<515;have:=xO qa4 (f-412) (by omega) (by rw [show 412+(f-412)=f from by omega];exact hb)
 rwa [show 412+(f-412)=f from by omega] at this
 by_cases h5:f<618;have:=xO qa5 (f-515) (by omega) (by rw [show 515+(f-515)=f from by omega];exact hb)
 rwa [show 515+(f-515)=f from by omega] at this
 have a:Nat.testBit (mQ >>> 618) (f-618)=Nat.testBit mQ (618+(f-618)):=Nat.testBit_shiftRight mQ;rw [show mQ >>> 618=0 from by decide,show 618+(f-618)=f from by omega,hb,Nat.zero_testBit] at a;cases a
theorem Sy:∀f sf,fns f=some sf->ql Tryz.prog f sf:=afh tab.2 kV
noncomputable abbrev cM (f:FuncId):aW:=cT Tryz.prog (wK Tryz.prog f) (Nat.testBit mP f) (Nat.testBit mR f) f
theorem ajy:fI 18 (cM 18):=iJ (kV 18 (by decide))
theorem adX:fI 207 (cM 207):=iJ (kV 207 (by decide))
theorem apr:fI 22 (cM 22):=iJ (kV 22 (by decide))
theorem afD:fI 23 (cM 23):=iJ (kV 23 (by decide))
theorem adY:fI 233 (cM 233):=iJ (kV 233 (by decide))
theorem ajz:fI 250 (cM 250):=iJ (kV 250 (by decide))
theorem ajA:fI 254 (cM 254):=iJ (kV 254 (by decide))
theorem Zc:fI 275 (cM 275):=iJ (kV 275 (by decide))
theorem adZ:fI 336 (cM 336):=iJ (kV 336 (by decide))
theorem ae0:fI 441 (cM 441):=iJ (kV 441 (by decide))
theorem ae7:fI 442 (cM 442):=iJ (kV 442 (by decide))
theorem Uf:fI 553 (cM 553):=iJ (kV 553 (by decide))
theorem is7:fI 7 (cM 7):=iJ (kV 7 (by decide))
def nsA:List Int:=[0,0,0,0,0,0,0,0,0,1,1,1,1,1,0,0,0,0,0,0,0,0,0,0,0,0,0,0,0,0,0,0,1,0,0,0,0,0,0,0,0,0,0,0,0,0,0,0,0,0,0,0,0,0,0,0,0,0,0,0,0,0,0,0,0,0,0,0,0,0,0,0,0,0,0,0,0,0,0,0,0,0,0,0,0,0,0,0,0,0,0,0,0,0,0,0,0,0,0,0,0,0,0,0,0,0,0,0,0,0,0,0,0,0,0,0,0,0,0,0,0,0,0,0,0,0,0,0,0,0,0,0,0,0,0,0,0,0,0,0,0,0,0,0,0,0,0,0,0,0,0,0,0,0,0,0,0,0,0,0,0,0,0,0,0,0,0,0,0,0,0,0,0,0,0,0,0,0,0,0,0,0,0,0,0,0,0,0,0,0,0,0,0,0,0,0,0,0,0,0,0,0,0,0,0,0,0,0,0,0,0,0,0,0,0,0,0,0,0,0,0,0,0,0,0,0,0,0,0,0,0,0,0,0,0,0,0,0,0,0,0,0,0,0,0,0,0,0,0,0,0,0,0,0,0,0]
def nsP:List Int:=[1,10,100,1000,10000,100000,1000000,10000000,100000000,1000000000,10000000000,100000000000,1000000000000,10000000000000,100000000000000,1000000000000000,10000000000000000,100000000000000000,1000000000000000000,10000000000000000000]
def ET:List NB:=[.cells 1 [[.iface 361 (.ptr 11 0)]],.cells 1 [[.iface 361 (.ptr 12 0)]],.dead,.cells 20 [[.int .u64 1,.int .u64 10,.int .u64 100,.int .u64 1000,.int .u64 10000,.int .u64 100000,.int .u64 1000000,.int .u64 10000000,.int .u64 100000000,.int .u64 1000000000,.int .u64 10000000000,.int .u64 100000000000,.int .u64 1000000000000,.int .u64 10000000000000,.int .u64 100000000000000,.int .u64 1000000000000000,.int .u64 10000000000000000,.int .u64 100000000000000000,.int .u64 1000000000000000000,.int .u64 10000000000000000000]],.cells 256 [[.int .u8 0,.int .u8 0,.int .u8 0,.int .u8 0,.int .u8 0,.int .u8 0,.int .u8 0,.int .u8 0,.int .u8 0,.int .u8 1,.int .u8 1,.int .u8 1,.int .u8 1,.int .u8 1,.int .u8 0,.int .u8 0,.int .u8 0,.int .u8 0,.int .u8 0,.int .u8 0,.int .u8 0,.int .u8 0,.int .u8 0,.int .u8 0,.int .u8 0,.int .u8 0,.int .u8 0,.int .u8 0,.int .u8 0,.int .u8 0,.int .u8 0,.int .u8 0,.int .u8 1,.int .u8 0,.int .u8 0,.int .u8 0,.int .u8 0,.int .u8 0,.int .u8 0,.int .u8 0,.int .u8 0,.int .u8 0,.int .u8 0,.int .u8 0,.int .u8 0,.int .u8 0,.int .u8 0,.int .u8 0,.int .u8 0,.int .u8 0,.int .u8 0,.int .u8 0,.int .u8 0,.int .u8 0,.int .u8 0,.int .u8 0,.int .u8 0,.int .u8 0,.int .u8 0,.int .u8 0,.int .u8 0,.int .u8 0,.int .u8 0,.int .u8 0,.int .u8 0,.int .u8 0,.int .u8 0,.int .u8 0,.int .u8 0,.int .u8 0,.int .u8 0,.int .u8 0,.int .u8 0,.int .u8 0,.int .u8 0,.int .u8 0,.int .u8 0,.int .u8 0,.int .u8 0,.int .u8 0,.int .u8 0,.int .u8 0,.int .u8 0,.int .u8 0,.int .u8 0,.int .u8 0,.int .u8 0,.int .u8 0,.int .u8 0,.int .u8 0,.int .u8 0,.int .u8 0,.int .u8 0,.int .u8 0,.int .u8 0,.int .u8 0,.int .u8 0,.int .u8 0,.int .u8 0,.int .u8 0,.int .u8 0,.int .u8 0,.int .u8 0,.int .u8 0,.int .u8 0,.int .u8 0,.int .u8 0,.int .u8 0,.int .u8 0,.int .u8 0,.int .u8 0,.int .u8 0,.int .u8 0,.int .u8 0,.int .u8 0,.int .u8 0,.int .u8 0,.int .u8 0,.int .u8 0,.int .u8 0,.int .u8 0,.int .u8 0,.int .u8 0,.int .u8 0,.int .u8 0,.int .u8 0,.int .u8 0,.int .u8 0,.int .u8 0,.int .u8 0,.int .u8 0,.int .u8 0,.int .u8 0,.int .u8 0,.int .u8 0,.int .u8 0,.int .u8 0,.int .u8 0,.int .u8 0,.int .u8 0,.int .u8 0,.int .u8 0,.int .u8 0,.int .u8 0,.int .u8 0,.int .u8 0,.int .u8 0,.int .u8 0,.int .u8 0,.int .u8 0,.int .u8 0,.int .u8 0,.int .u8 0,.int .u8 0,.int .u8 0,.int .u8 0,.int .u8 0,.int .u8 0,.int .u8 0,.int .u8 0,.int .u8 0,.int .u8 0,.int .u8 0,.int .u8 0,.int .u8 0,.int .u8 0,.int .u8 0,.int .u8 0,.int .u8 0,.int .u8 0,.int .u8 0,.int .u8 0,.int .u8 0,.int .u8 0,.int .u8 0,.int .u8 0,.int .u8 0,.int .u8 0,.int .u8 0,.int .u8 0,.int .u8 0,.int .u8 0,.int .u8 0,.int .u8 0,.int .u8 0,.int .u8 0,.int .u8 0,.int .u8 0,.int .u8 0,.int .u8 0,.int .u8 0,.int .u8 0,.int .u8 0,.int .u8 0,.int .u8 0,.int .u8 0,.int .u8 0,.int .u8 0,.int .u8 0,.int .u8 0,.int .u8 0,.int .u8 0,.int .u8 0,.int .u8 0,.int .u8 0,.int .u8 0,.int .u8 0,.int .u8 0,.int .u8 0,.int .u8 0,.int .u8 0,.int .u8 0,.int .u8 0,.int .u8 0,.int .u8 0,.int .u8 0,.int .u8 0,.int .u8 0,.int .u8 0,.int .u8 0,.int .u8 0,.int .u8 0,.int .u8 0,.int .u8 0,.int .u8 0,.int .u8 0,.int .u8 0,.int .u8 0,.int .u8 0,.int .u8 0,.int .u8 0,.int .u8 0,.int .u8 0,.int .u8 0,.int .u8 0,.int .u8 0,.int .u8 0,.int .u8 0,.int .u8 0,.int .u8 0,.int .u8 0,.int .u8 0,.int .u8 0,.int .u8 0,.int .u8 0,.int .u8 0,.int .u8 0,.int .u8 0,.int .u8 0,.int .u8 0,.int .u8 0,.int .u8 0,.int .u8 0,.int .u8 0,.int .u8 0,.int .u8 0]],.dead,.dead,.dead,.dead,.dead,.dead,.dead,.dead]
def base:Mem:=layAll ET ⟨.e,0,0⟩
theorem mJ:Gz base ET:=by
 refine⟨?_,rfl,?_,?_⟩;have:T.Ok (T.ofList (ET.map fC)) 13:=T.fO (ET.map fC);exact this;intro i a;have h:base.nx=13:=rfl;rw [h] at a;match i,a with
 | 0,_=>rfl
 | 1,_=>rfl
 | 2,_=>rfl
 | 3,_=>rfl
 | 4,_=>rfl
 | 5,_=>rfl
 | 6,_=>rfl
 | 7,_=>rfl
 | 8,_=>rfl
 | 9,_=>rfl
 | 10,_=>rfl
 | 11,_=>rfl
 | 12,_=>rfl
 intro b h;simp only [ET,Y4,ae1,or_false] at h;rcases h with rfl | rfl | rfl | rfl | rfl | rfl | rfl | rfl | rfl | rfl | rfl | rfl | rfl<;>rfl
theorem mixed:Tryz.prog.follows .mixedOrders=true:=by kernel_rfl
end
end Go.Proofs.YteecnooaopfkeaaGreatDoor.TT

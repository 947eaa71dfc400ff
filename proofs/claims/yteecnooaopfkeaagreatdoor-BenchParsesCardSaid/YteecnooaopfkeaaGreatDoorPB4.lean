/- The tables as one tree, and what is known of the variables; no condition. -/
import Derived.Test.YteecnooaopfkeaaGreatDoorPB1
import Derived.Test.YteecnooaopfkeaaGreatDoorPB2
import Derived.Test.YteecnooaopfkeaaGreatDoorPB3
import Derived.Test.YteecnooaopfkeaaGreatDoorPB5
import Derived.Test.YteecnooaopfkeaaGreatDoorPB7
set_option linter.all false
namespace Go.Proofs.YteecnooaopfkeaaGreatDoor.TT
open Go Go.AM
set_option maxRecDepth 100000
noncomputable section
def tab:TtR λi=>i:=(Cw (Cw (jl (jl (jl (jl (jl dK am1 dK) alG (jl dK ama dK)) aly (jl dK alL (Cw (jl dK ag1 dK) dK))) is7 (Cw dK (jl dK alT dK))) is3 (jl (Cw (jl dK alH (jl dK ame (jl dK ag4 dK))) (jl (jl dK am8 dK) alP (jl dK afY dK))) alv (jl (Cw (jl dK am5 dK) dK) alC (jl dK alX dK)))) (Cw (jl (Cw (Cw (jl dK am3 dK) (jl dK amc dK)) (jl dK alN (Cw (jl dK ag3 dK) dK))) is9 (jl dK alA (jl dK alV dK))) (Cw (Cw (Cw dK (jl dK afW dK)) (jl dK alR dK)) (jl (jl (jl dK am7 dK) alJ dK) alE (jl (jl dK am9 dK) alZ dK))))) (Cw (jl (jl (jl (Cw (jl dK am2 dK) (jl dK amb dK)) is16 (jl dK alM (Cw (jl dK ag2 dK) dK))) is8 (jl dK alz (jl dK alU dK))) is4 (jl (Cw (jl dK alI (jl (jl (jl dK ag5 dK) ag0 dK) afV dK)) (jl dK alQ (jl dK afZ dK))) alx (jl (Cw (jl dK am6 dK) dK) alD (jl dK alY dK)))) (Cw (jl (Cw (Cw (jl dK am4 dK) (jl dK amd dK)) (jl dK alO dK)) ac6 (jl dK alB (jl dK alW dK))) (Cw (Cw (Cw dK (jl dK afX dK)) (jl dK alS dK)) (jl (jl dK alK dK) alF (jl dK am0 dK))))))
def fns (f:FuncId):Option aT:=orQ (tab.1.get f) (fnQ Tryz.prog mQ mP mR f)
theorem kW (f:Nat)(hb:Nat.testBit mQ f=true):(Oo Tryz.prog (uU Tryz.prog f) f).isSome=true:=by
 by_cases h0:f<103;have:=vV qa0 (f-0) (by omega) (by rw [show 0+(f-0)=f from by omega];exact hb)
 rwa [show 0+(f-0)=f from by omega] at this
 by_cases h1:f<206;have:=vV qa1 (f-103) (by omega) (by rw [show 103+(f-103)=f from by omega];exact hb)
 rwa [show 103+(f-103)=f from by omega] at this
 by_cases h2:f<309;have:=vV qa2 (f-206) (by omega) (by rw [show 206+(f-206)=f from by omega];exact hb)
 rwa [show 206+(f-206)=f from by omega] at this
 by_cases h3:f<412;have:=vV qa3 (f-309) (by omega) (by rw [show 309+(f-309)=f from by omega];exact hb)
 rwa [show 309+(f-309)=f from by omega] at this
 by_cases h4:f<515;have:=vV qa4 (f-412) (by omega) (by rw [show 412+(f-412)=f from by omega];exact hb)
 rwa [show 412+(f-412)=f from by omega] at this
 by_cases h5:f<618;have:=vV qa5 (f-515) (by omega) (by rw [show 515+(f-515)=f from by omega];exact hb)
 rwa [show 515+(f-515)=f from by omega] at this
 have h3:Nat.testBit (mQ >>> 618) (f-618)=Nat.testBit mQ (618+(f-618)):=Nat.testBit_shiftRight mQ;rw [show mQ >>> 618=0 from by decide,show 618+(f-618)=f from by omega,hb,Nat.zero_testBit] at h3;cases h3
theorem Pq:∀f sf,fns f=some sf->oU Tryz.prog f sf:=abL tab.2 kW
noncomputable abbrev cM (f:FuncId):aT:=cT Tryz.prog (uU Tryz.prog f) (Nat.testBit mP f) (Nat.testBit mR f) f
theorem ag6:fI 18 (cM 18):=iC (kW 18 (by decide))
theorem aaz:fI 207 (cM 207):=iC (kW 207 (by decide))
theorem amf:fI 22 (cM 22):=iC (kW 22 (by decide))
theorem ac8:fI 23 (cM 23):=iC (kW 23 (by decide))
theorem aaA:fI 233 (cM 233):=iC (kW 233 (by decide))
theorem ag7:fI 250 (cM 250):=iC (kW 250 (by decide))
theorem ag8:fI 254 (cM 254):=iC (kW 254 (by decide))
theorem VN:fI 275 (cM 275):=iC (kW 275 (by decide))
theorem aaB:fI 336 (cM 336):=iC (kW 336 (by decide))
theorem aaC:fI 441 (cM 441):=iC (kW 441 (by decide))
theorem aaD:fI 442 (cM 442):=iC (kW 442 (by decide))
theorem QK:fI 553 (cM 553):=iC (kW 553 (by decide))
def nsA:List Int:=[0,0,0,0,0,0,0,0,0,1,1,1,1,1,0,0,0,0,0,0,0,0,0,0,0,0,0,0,0,0,0,0,1,0,0,0,0,0,0,0,0,0,0,0,0,0,0,0,0,0,0,0,0,0,0,0,0,0,0,0,0,0,0,0,0,0,0,0,0,0,0,0,0,0,0,0,0,0,0,0,0,0,0,0,0,0,0,0,0,0,0,0,0,0,0,0,0,0,0,0,0,0,0,0,0,0,0,0,0,0,0,0,0,0,0,0,0,0,0,0,0,0,0,0,0,0,0,0,0,0,0,0,0,0,0,0,0,0,0,0,0,0,0,0,0,0,0,0,0,0,0,0,0,0,0,0,0,0,0,0,0,0,0,0,0,0,0,0,0,0,0,0,0,0,0,0,0,0,0,0,0,0,0,0,0,0,0,0,0,0,0,0,0,0,0,0,0,0,0,0,0,0,0,0,0,0,0,0,0,0,0,0,0,0,0,0,0,0,0,0,0,0,0,0,0,0,0,0,0,0,0,0,0,0,0,0,0,0,0,0,0,0,0,0,0,0,0,0,0,0,0,0,0,0,0,0]
def nsP:List Int:=[1,10,100,1000,10000,100000,1000000,10000000,100000000,1000000000,10000000000,100000000000,1000000000000,10000000000000,100000000000000,1000000000000000,10000000000000000,100000000000000000,1000000000000000000,10000000000000000000]
def CG:List NB:=[.cells 1 [[.iface 361 (.ptr 11 0)]],.cells 1 [[.iface 361 (.ptr 12 0)]],.dead,.cells 20 [[.int .u64 1,.int .u64 10,.int .u64 100,.int .u64 1000,.int .u64 10000,.int .u64 100000,.int .u64 1000000,.int .u64 10000000,.int .u64 100000000,.int .u64 1000000000,.int .u64 10000000000,.int .u64 100000000000,.int .u64 1000000000000,.int .u64 10000000000000,.int .u64 100000000000000,.int .u64 1000000000000000,.int .u64 10000000000000000,.int .u64 100000000000000000,.int .u64 1000000000000000000,.int .u64 10000000000000000000]],.cells 256 [[.int .u8 0,.int .u8 0,.int .u8 0,.int .u8 0,.int .u8 0,.int .u8 0,.int .u8 0,.int .u8 0,.int .u8 0,.int .u8 1,.int .u8 1,.int .u8 1,.int .u8 1,.int .u8 1,.int .u8 0,.int .u8 0,.int .u8 0,.int .u8 0,.int .u8 0,.int .u8 0,.int .u8 0,.int .u8 0,.int .u8 0,.int .u8 0,.int .u8 0,.int .u8 0,.int .u8 0,.int .u8 0,.int .u8 0,.int .u8 0,.int .u8 0,.int .u8 0,.int .u8 1,.int .u8 0,.int .u8 0,.int .u8 0,.int .u8 0,.int .u8 0,.int .u8 0,.int .u8 0,.int .u8 0,.int .u8 0,.int .u8 0,.int .u8 0,.int .u8 0,.int .u8 0,.int .u8 0,.int .u8 0,.int .u8 0,.int .u8 0,.int .u8 0,.int .u8 0,.int .u8 0,.int .u8 0,.int .u8 0,.int .u8 0,.int .u8 0,.int .u8 0,.int .u8 0,.int .u8 0,.int .u8 0,.int .u8 0,.int .u8 0,.int .u8 0,.int .u8 0,.int .u8 0,.int .u8 0,.int .u8 0,.int .u8 0,.int .u8 0,.int .u8 0,.int .u8 0,.int .u8 0,.int .u8 0,.int .u8 0,.int .u8 0,.int .u8 0,.int .u8 0,.int .u8 0,.int .u8 0,.int .u8 0,.int .u8 0,.int .u8 0,.int .u8 0,.int .u8 0,.int .u8 0,.int .u8 0,.int .u8 0,.int .u8 0,.int .u8 0,.int .u8 0,.int .u8 0,.int .u8 0,.int .u8 0,.int .u8 0,.int .u8 0,.int .u8 0,.int .u8 0,.int .u8 0,.int .u8 0,.int .u8 0,.int .u8 0,.int .u8 0,.int .u8 0,.int .u8 0,.int .u8 0,.int .u8 0,.int .u8 0,.int .u8 0,.int .u8 0,.int .u8 0,.int .u8 0,.int .u8 0,.int .u8 0,.int .u8 0,.int .u8 0,.int .u8 0,.int .u8 0,.int .u8 0,.int .u8 0,.int .u8 0,.int .u8 0,.int .u8 0,.int .u8 0,.int .u8 0,.int .u8 0,.int .u8 0,.int .u8 0,.int .u8 0,.int .u8 0,.int .u8 0,.int .u8 0,.int .u8 0,.int .u8 0,.int .u8 0,.int .u8 0,.int .u8 0,.int .u8 0,.int .u8 0,.int .u8 0,.int .u8 0,.int .u8 0,.int .u8 0,.int .u8 0,.int .u8 0,.int .u8 0,.int .u8 0,.int .u8 0,.int .u8 0,.int .u8 0,.int .u8 0,.int .u8 0,.int .u8 0,.int .u8 0,.int .u8 0,.int .u8 0,.int .u8 0,.int .u8 0,.int .u8 0,.int .u8 0,.int .u8 0,.int .u8 0,.int .u8 0,.int .u8 0,.int .u8 0,.int .u8 0,.int .u8 0,.int .u8 0,.int .u8 0,.int .u8 0,.int .u8 0,.int .u8 0,.int .u8 0,.int .u8 0,.int .u8 0,.int .u8 0,.int .u8 0,.int .u8 0,.int .u8 0,.int .u8 0,.int .u8 0,.int .u8 0,.int .u8 0,.int .u8 0,.int .u8 0,.int .u8 0,.int .u8 0,.int .u8 0,.int .u8 0,.int .u8 0,.int .u8 0,.int .u8 0,.int .u8 0,.int .u8 0,.int .u8 0,.int .u8 0,.int .u8 0,.int .u8 0,.int .u8 0,.int .u8 0,.int .u8 0,.int .u8 0,.int .u8 0,.int .u8 0,.int .u8 0,.int .u8 0,.int .u8 0,.int .u8 0,.int .u8 0,.int .u8 0,.int .u8 0,.int .u8 0,.int .u8 0,.int .u8 0,.int .u8 0,.int .u8 0,.int .u8 0,.int .u8 0,.int .u8 0,.int .u8 0,.int .u8 0,.int .u8 0,.int .u8 0,.int .u8 0,.int .u8 0,.int .u8 0,.int .u8 0,.int .u8 0,.int .u8 0,.int .u8 0,.int .u8 0,.int .u8 0,.int .u8 0,.int .u8 0,.int .u8 0,.int .u8 0,.int .u8 0,.int .u8 0,.int .u8 0,.int .u8 0,.int .u8 0,.int .u8 0,.int .u8 0,.int .u8 0,.int .u8 0,.int .u8 0,.int .u8 0,.int .u8 0,.int .u8 0,.int .u8 0,.int .u8 0,.int .u8 0,.int .u8 0,.int .u8 0,.int .u8 0,.int .u8 0]],.dead,.dead,.dead,.dead,.dead,.dead,.dead,.dead]
def base:Mem:=layAll CG ⟨.e,0,0⟩
theorem lG:Et base CG:=by
 refine⟨?_,rfl,?_,?_⟩;have:T.Ok (T.ofList (CG.map dQ)) 13:=T.fP (CG.map dQ);exact this;intro i hi;have h:base.nx=13:=rfl;rw [h] at hi;match i,hi with
 | 0,_=>rfl
 | 1,_=>rfl
 | 2,_=>rfl
 | 3,_=>rfl
 | 4,_=>rfl
 | 5,_=>rfl
 | 6,_=>rfl
 | 7,_=>rfl
 | 8,_=>rfl
 | 9,_=>rfl
 | 10,_=>rfl
 | 11,_=>rfl
 | 12,_=>rfl
 intro nb h;simp only [CG,Z7,afL,or_false] at h;rcases h with rfl | rfl | rfl | rfl | rfl | rfl | rfl | rfl | rfl | rfl | rfl | rfl | rfl<;>rfl
theorem mixed:Tryz.prog.follows .mixedOrders=true:=by kernel_rfl
end
end Go.Proofs.YteecnooaopfkeaaGreatDoor.TT

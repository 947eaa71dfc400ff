/- The tables as one tree, and what is known of the variables; no condition. -/
import Derived.Test.YtfddpcckppibjaaGreatDoorPB1
import Derived.Test.YtfddpcckppibjaaGreatDoorPB2
import Derived.Test.YtfddpcckppibjaaGreatDoorPB3
import Derived.Test.YtfddpcckppibjaaGreatDoorPB5
import Derived.Test.YtfddpcckppibjaaGreatDoorPB7
set_option linter.all false
namespace Go.Proofs.YtfddpcckppibjaaGreatDoor.TT
open Go Go.AM
set_option maxRecDepth 100000
noncomputable section
def tab:TtR λi=>i:=(Gy (Gy (aO (Gy (aO (Gy (aO (aO V3 ajA V3) aq9 V3) (aO (aO V3 ajL V3) aqB V3)) aeQ (aO (aO V3 aqp V3) apZ (aO V3 ajk V3))) (aO (aO (aO (aO V3 ajI V3) aqh (aO V3 ajQ V3)) apT (aO V3 ajc (aO V3 ajT V3))) apF (aO (aO V3 aqy V3) aq1 (aO V3 ajs V3)))) is3 (aO (Gy (aO (aO (aO V3 ajE V3) aqd V3) apP V3) (Gy (aO V3 aqu V3) (aO V3 ajo V3))) apA (aO (Gy (aO V3 aql V3) (aO V3 ajg V3)) apJ (aO V3 aq5 (aO V3 ajw V3))))) (Gy (aO (aO (aO (aO (aO V3 ajC V3) aqb V3) apN V3) apD (Gy (aO V3 aqs V3) (aO (aO V3 ajM V3) ajm V3))) is9 (aO (Gy (aO V3 aqj V3) (aO V3 aje V3)) apH (aO V3 aq3 (aO V3 aju V3)))) (aO (Gy (aO (aO (aO V3 ajG V3) aqf (aO V3 ajO V3)) apR (Gy V3 (aO V3 ajS V3))) (Gy (aO (aO V3 ajK V3) aqw V3) (aO V3 ajq V3))) apC (aO (aO (aO V3 aqn V3) apX (aO V3 aji V3)) apL (aO (aO V3 aqA V3) aq7 (aO V3 ajy V3)))))) (Gy (Gy (aO (Gy (aO (aO (aO V3 ajB V3) aqa V3) is32 V3) (aO (aO V3 aqr V3) aq0 (aO V3 ajl (aO V3 ajV V3)))) is8 (aO (aO (aO (aO V3 ajJ V3) aqi (aO V3 ajR V3)) apU (aO V3 ajd V3)) apG (aO (aO V3 aqz V3) aq2 (aO V3 ajt V3)))) (aO (Gy (aO (aO (aO V3 ajF V3) aqe (aO V3 ajN V3)) apQ V3) (Gy (aO V3 aqv V3) (aO V3 ajp V3))) apB (aO (aO (aO V3 aqm V3) apW (aO V3 ajh V3)) apK (aO V3 aq6 (aO V3 ajx V3))))) (aO (aO (Gy (aO (aO (aO V3 ajD V3) aqc V3) apO V3) (Gy (aO V3 aqt V3) (aO V3 ajn V3))) apz (aO (aO (aO V3 aqk V3) apV (aO V3 ajf V3)) apI (aO V3 aq4 (aO V3 ajv (aO V3 ajW V3))))) is6 (Gy (aO (aO (aO (aO V3 ajH V3) aqg (aO V3 ajP V3)) apS V3) apE (Gy (aO V3 aqx V3) (aO V3 ajr V3))) (aO (aO (aO V3 aqo V3) apY (aO V3 ajj (aO V3 ajU V3))) apM (aO V3 aq8 (aO V3 ajz V3)))))))
def fns (f:FuncId):Option R5:=orQ (tab.1.get f) (fnQ Tryz.prog mQ mP mR f)
theorem jB (f:Nat)(hb:Nat.testBit mQ f=true):(PE Tryz.prog (vG Tryz.prog f) f).isSome=true:=by
 by_cases h0:f<102;have:=wo qa0 (f-0) (by omega) (by rw [show 0+(f-0)=f from by omega];exact hb)
 rwa [show 0+(f-0)=f from by omega] at this
 by_cases h1:f<204;have:=wo qa1 (f-102) (by omega) (by rw [show 102+(f-102)=f from by omega];exact hb)
 rwa [show 102+(f-102)=f from by omega] at this
 by_cases h2:f<306;have:=wo qa2 (f-204) (by omega) (by rw [show 204+(f-204)=f from by omega];exact hb)
 rwa [show 204+(f-204)=f from by omega] at this
 by_cases a:f<408;have:=wo qa3 (f-306) (by omega) (by rw [show 306+(f-306)=f from by omega];exact hb)
 rwa [show 306+(f-306)=f from by omega] at this
 by_cases h4:f<510;have:=wo qa4 (f-408) (by omega) (by rw [show 408+(f-408)=f from by omega];exact hb)
 rwa [show 408+(f-408)=f from by omega] at this
 by_cases h5:f<612;have:=wo qa5 (f-510) (by omega) (by rw [show 510+(f-510)=f from by omega];exact hb)
 rwa [show 510+(f-510)=f from by omega] at this
 have a:Nat.testBit (mQ >>> 612) (f-612)=Nat.testBit mQ (612+(f-612)):=Nat.testBit_shiftRight mQ;rw [show mQ >>> 612=0 from by decide,show 612+(f-612)=f from by omega,hb,Nat.zero_testBit] at a;cases a
theorem QH:∀f sf,fns f=some sf->qF Tryz.prog f sf:=aex tab.2 jB
noncomputable abbrev cM (f:FuncId):R5:=cT Tryz.prog (vG Tryz.prog f) (Nat.testBit mP f) (Nat.testBit mR f) f
theorem ajX:X9 53 (cM 53):=fP (jB 53 (by decide))
theorem adn:X9 220 (cM 220):=fP (jB 220 (by decide))
theorem aqC:X9 20 (cM 20):=fP (jB 20 (by decide))
theorem aeS:X9 21 (cM 21):=fP (jB 21 (by decide))
theorem ado:X9 253 (cM 253):=fP (jB 253 (by decide))
theorem ajY:X9 270 (cM 270):=fP (jB 270 (by decide))
theorem ajZ:X9 274 (cM 274):=fP (jB 274 (by decide))
theorem XG:X9 295 (cM 295):=fP (jB 295 (by decide))
theorem adp:X9 356 (cM 356):=fP (jB 356 (by decide))
theorem adq:X9 453 (cM 453):=fP (jB 453 (by decide))
theorem adr:X9 454 (cM 454):=fP (jB 454 (by decide))
theorem Sn:X9 547 (cM 547):=fP (jB 547 (by decide))
theorem is7:X9 7 (cM 7):=fP (jB 7 (by decide))
theorem ak0:X9 18 (cM 18):=fP (jB 18 (by decide))
def nsA:List Int:=[0,0,0,0,0,0,0,0,0,1,1,1,1,1,0,0,0,0,0,0,0,0,0,0,0,0,0,0,0,0,0,0,1,0,0,0,0,0,0,0,0,0,0,0,0,0,0,0,0,0,0,0,0,0,0,0,0,0,0,0,0,0,0,0,0,0,0,0,0,0,0,0,0,0,0,0,0,0,0,0,0,0,0,0,0,0,0,0,0,0,0,0,0,0,0,0,0,0,0,0,0,0,0,0,0,0,0,0,0,0,0,0,0,0,0,0,0,0,0,0,0,0,0,0,0,0,0,0,0,0,0,0,0,0,0,0,0,0,0,0,0,0,0,0,0,0,0,0,0,0,0,0,0,0,0,0,0,0,0,0,0,0,0,0,0,0,0,0,0,0,0,0,0,0,0,0,0,0,0,0,0,0,0,0,0,0,0,0,0,0,0,0,0,0,0,0,0,0,0,0,0,0,0,0,0,0,0,0,0,0,0,0,0,0,0,0,0,0,0,0,0,0,0,0,0,0,0,0,0,0,0,0,0,0,0,0,0,0,0,0,0,0,0,0,0,0,0,0,0,0,0,0,0,0,0,0]
def nsP:List Int:=[1,10,100,1000,10000,100000,1000000,10000000,100000000,1000000000,10000000000,100000000000,1000000000000,10000000000000,100000000000000,1000000000000000,10000000000000000,100000000000000000,1000000000000000000,10000000000000000000]
def DJ:List NB:=[.cells 1 [[.iface 432 (.ptr 11 0)]],.cells 1 [[.iface 432 (.ptr 12 0)]],.dead,.cells 256 [[.int .u8 0,.int .u8 0,.int .u8 0,.int .u8 0,.int .u8 0,.int .u8 0,.int .u8 0,.int .u8 0,.int .u8 0,.int .u8 1,.int .u8 1,.int .u8 1,.int .u8 1,.int .u8 1,.int .u8 0,.int .u8 0,.int .u8 0,.int .u8 0,.int .u8 0,.int .u8 0,.int .u8 0,.int .u8 0,.int .u8 0,.int .u8 0,.int .u8 0,.int .u8 0,.int .u8 0,.int .u8 0,.int .u8 0,.int .u8 0,.int .u8 0,.int .u8 0,.int .u8 1,.int .u8 0,.int .u8 0,.int .u8 0,.int .u8 0,.int .u8 0,.int .u8 0,.int .u8 0,.int .u8 0,.int .u8 0,.int .u8 0,.int .u8 0,.int .u8 0,.int .u8 0,.int .u8 0,.int .u8 0,.int .u8 0,.int .u8 0,.int .u8 0,.int .u8 0,.int .u8 0,.int .u8 0,.int .u8 0,.int .u8 0,.int .u8 0,.int .u8 0,.int .u8 0,.int .u8 0,.int .u8 0,.int .u8 0,.int .u8 0,.int .u8 0,.int .u8 0,.int .u8 0,.int .u8 0,.int .u8 0,.int .u8 0,.int .u8 0,.int .u8 0,.int .u8 0,.int .u8 0,.int .u8 0,.int .u8 0,.int .u8 0,.int .u8 0,.int .u8 0,.int .u8 0,.int .u8 0,.int .u8 0,.int .u8 0,.int .u8 0,.int .u8 0,.int .u8 0,.int .u8 0,.int .u8 0,.int .u8 0,.int .u8 0,.int .u8 0,.int .u8 0,.int .u8 0,.int .u8 0,.int .u8 0,.int .u8 0,.int .u8 0,.int .u8 0,.int .u8 0,.int .u8 0,.int .u8 0,.int .u8 0,.int .u8 0,.int .u8 0,.int .u8 0,.int .u8 0,.int .u8 0,.int .u8 0,.int .u8 0,.int .u8 0,.int .u8 0,.int .u8 0,.int .u8 0,.int .u8 0,.int .u8 0,.int .u8 0,.int .u8 0,.int .u8 0,.int .u8 0,.int .u8 0,.int .u8 0,.int .u8 0,.int .u8 0,.int .u8 0,.int .u8 0,.int .u8 0,.int .u8 0,.int .u8 0,.int .u8 0,.int .u8 0,.int .u8 0,.int .u8 0,.int .u8 0,.int .u8 0,.int .u8 0,.int .u8 0,.int .u8 0,.int .u8 0,.int .u8 0,.int .u8 0,.int .u8 0,.int .u8 0,.int .u8 0,.int .u8 0,.int .u8 0,.int .u8 0,.int .u8 0,.int .u8 0,.int .u8 0,.int .u8 0,.int .u8 0,.int .u8 0,.int .u8 0,.int .u8 0,.int .u8 0,.int .u8 0,.int .u8 0,.int .u8 0,.int .u8 0,.int .u8 0,.int .u8 0,.int .u8 0,.int .u8 0,.int .u8 0,.int .u8 0,.int .u8 0,.int .u8 0,.int .u8 0,.int .u8 0,.int .u8 0,.int .u8 0,.int .u8 0,.int .u8 0,.int .u8 0,.int .u8 0,.int .u8 0,.int .u8 0,.int .u8 0,.int .u8 0,.int .u8 0,.int .u8 0,.int .u8 0,.int .u8 0,.int .u8 0,.int .u8 0,.int .u8 0,.int .u8 0,.int .u8 0,.int .u8 0,.int .u8 0,.int .u8 0,.int .u8 0,.int .u8 0,.int .u8 0,.int .u8 0,.int .u8 0,.int .u8 0,.int .u8 0,.int .u8 0,.int .u8 0,.int .u8 0,.int .u8 0,.int .u8 0,.int .u8 0,.int .u8 0,.int .u8 0,.int .u8 0,.int .u8 0,.int .u8 0,.int .u8 0,.int .u8 0,.int .u8 0,.int .u8 0,.int .u8 0,.int .u8 0,.int .u8 0,.int .u8 0,.int .u8 0,.int .u8 0,.int .u8 0,.int .u8 0,.int .u8 0,.int .u8 0,.int .u8 0,.int .u8 0,.int .u8 0,.int .u8 0,.int .u8 0,.int .u8 0,.int .u8 0,.int .u8 0,.int .u8 0,.int .u8 0,.int .u8 0,.int .u8 0,.int .u8 0,.int .u8 0,.int .u8 0,.int .u8 0,.int .u8 0,.int .u8 0,.int .u8 0,.int .u8 0,.int .u8 0,.int .u8 0,.int .u8 0,.int .u8 0,.int .u8 0,.int .u8 0,.int .u8 0,.int .u8 0,.int .u8 0,.int .u8 0,.int .u8 0,.int .u8 0,.int .u8 0,.int .u8 0]],.cells 20 [[.int .u64 1,.int .u64 10,.int .u64 100,.int .u64 1000,.int .u64 10000,.int .u64 100000,.int .u64 1000000,.int .u64 10000000,.int .u64 100000000,.int .u64 1000000000,.int .u64 10000000000,.int .u64 100000000000,.int .u64 1000000000000,.int .u64 10000000000000,.int .u64 100000000000000,.int .u64 1000000000000000,.int .u64 10000000000000000,.int .u64 100000000000000000,.int .u64 1000000000000000000,.int .u64 10000000000000000000]],.dead,.dead,.dead,.dead,.dead,.dead,.dead,.dead]
def base:Mem:=layAll DJ ⟨.e,0,0⟩
theorem wC:Fp base DJ:=by
 refine⟨?_,rfl,?_,?_⟩;have:T.Ok (T.ofList (DJ.map iX)) 13:=T.gG (DJ.map iX);exact this;intro i a;have h:base.nx=13:=rfl;rw [h] at a;match i,a with
 | 0,_=>rfl
 | 1,_=>rfl
 | 2,_=>rfl
 | 3,_=>rfl
 | 4,_=>rfl
 | 5,_=>rfl
 | 6,_=>rfl
 | 7,_=>rfl
 | 8,_=>rfl
 | 9,_=>rfl
 | 10,_=>rfl
 | 11,_=>rfl
 | 12,_=>rfl
 intro b h;simp only [DJ,Z5,aku,or_false] at h;rcases h with rfl | rfl | rfl | rfl | rfl | rfl | rfl | rfl | rfl | rfl | rfl | rfl | rfl<;>rfl
theorem mixed:Tryz.prog.follows .mixedOrders=true:=by kernel_rfl
end
end Go.Proofs.YtfddpcckppibjaaGreatDoor.TT

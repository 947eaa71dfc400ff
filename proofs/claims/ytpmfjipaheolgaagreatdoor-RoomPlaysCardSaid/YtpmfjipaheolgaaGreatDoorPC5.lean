/- Calls of the fixed example, each computed by the kernel; no condition. -/
import Derived.Test.YtpmfjipaheolgaaGreatDoorPB0
set_option linter.all false
namespace Go.Proofs.YtpmfjipaheolgaaGreatDoor.TT
open Go Go.AM
set_option maxRecDepth 1000000
open Nat (beq ble blt)
theorem aq9:bB ⟨163,[j5.ptr 15 0,Z],[yc,yb,yh,yd,yy,yw,ye,yw,yg,yj],ff,[]⟩:=run' gU.is tK
theorem aqa:bB ⟨163,yf,[yc,yb,yh,yd,yy,yw,ye,yw,yg,yj,C 8 [[yx,yA,yz,Z,I 986,yx,yx,yx]]],tt,[]⟩:=run' gU.is tK
theorem aqb:bB ⟨163,yf,[yc,yb,yh,yd,yy,yw,ye,yw,yg,yj,C 8 [[yx,yA,yz,Z,I 1006,yx,yx,yx]]],tt,[]⟩:=run' gU.is tK
theorem ai4:bB ⟨163,yf,[yc,yb,yh,yd,yy,yw,ye,yw,yg,yj,C 8 [[yx,yA,yz,Z,I 1011,yx,yx,yx]]],tt,[]⟩:=run' gU.is tK
end Go.Proofs.YtpmfjipaheolgaaGreatDoor.TT

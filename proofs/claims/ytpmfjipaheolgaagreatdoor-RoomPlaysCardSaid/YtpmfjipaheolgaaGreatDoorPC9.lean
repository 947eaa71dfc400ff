/- Calls of the fixed example, each computed by the kernel; no condition. -/
import Derived.Test.YtpmfjipaheolgaaGreatDoorPB0
set_option linter.all false
namespace Go.Proofs.YtpmfjipaheolgaaGreatDoor.TT
open Go Go.AM
set_option maxRecDepth 1000000
open Nat (beq ble blt)
theorem aqm:bB ⟨163,yf,[yc,yb,yh,yd,yy,yw,ye,yw,yg,yj,C 8 [[yx,yA,yz,Z,I 985,yx,yx,yx]]],tt,[]⟩:=run' gU.is tK
theorem aqn:bB ⟨163,yf,[yc,yb,yh,yd,yy,yw,ye,yw,yg,yj,C 8 [[yx,yA,yz,Z,I 992,yx,yx,yx]]],tt,[]⟩:=run' gU.is tK
theorem aqo:bB ⟨163,yf,[yc,yb,yh,yd,yy,yw,ye,yw,yg,yj,C 8 [[yx,yA,yz,Z,I 997,yx,yx,yx]]],tt,[]⟩:=run' gU.is tK
theorem aqp:bB ⟨163,yf,[yc,yb,yh,yd,yy,yw,ye,yw,yg,yj,C 8 [[yx,yA,yz,Z,I 1003,yx,yx,yx]]],tt,[]⟩:=run' gU.is tK
end Go.Proofs.YtpmfjipaheolgaaGreatDoor.TT

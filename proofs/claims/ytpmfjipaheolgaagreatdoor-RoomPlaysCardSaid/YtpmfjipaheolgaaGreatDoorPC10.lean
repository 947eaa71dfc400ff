/- Calls of the fixed example, each computed by the kernel; no condition. -/
import Derived.Test.YtpmfjipaheolgaaGreatDoorPB0
set_option linter.all false
namespace Go.Proofs.YtpmfjipaheolgaaGreatDoor.TT
open Go Go.AM
set_option maxRecDepth 1000000
open Nat (beq ble blt)
theorem aqr:bB ⟨163,yf,[yc,yb,yh,yd,yy,yw,ye,yw,yg,yj,C 8 [[yx,yA,yz,Z,I 988,yx,yx,yx]]],tt,[]⟩:=run' gU.is tK
theorem aqs:bB ⟨163,yf,[yc,yb,yh,yd,yy,yw,ye,yw,yg,yj,C 8 [[yx,yA,yz,Z,I 993,yx,yx,yx]]],tt,[]⟩:=run' gU.is tK
theorem aqt:bB ⟨163,yf,[yc,yb,yh,yd,yy,yw,ye,yw,yg,yj,C 8 [[yx,yA,yz,Z,I 998,yx,yx,yx]]],tt,[]⟩:=run' gU.is tK
theorem aqu:bB ⟨163,yf,[yc,yb,yh,yd,yy,yw,ye,yw,yg,yj,C 8 [[yx,yA,yz,Z,I 1001,yx,yx,yx]]],tt,[]⟩:=run' gU.is tK
end Go.Proofs.YtpmfjipaheolgaaGreatDoor.TT

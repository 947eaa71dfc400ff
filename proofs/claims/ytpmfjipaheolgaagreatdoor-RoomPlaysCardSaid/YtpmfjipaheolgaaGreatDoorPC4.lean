/- Calls of the fixed example, each computed by the kernel; no condition. -/
import Derived.Test.YtpmfjipaheolgaaGreatDoorPB0
set_option linter.all false
namespace Go.Proofs.YtpmfjipaheolgaaGreatDoor.TT
open Go Go.AM
set_option maxRecDepth 1000000
open Nat (beq ble blt)
theorem avt:bB ⟨34,[yk,yB,yE,yA],ya,yt,[C 3 [[yE,I 984,I 1011]]]⟩:=run' ab1.is tK
theorem aq5:bB ⟨163,yf,[yc,yb,yh,yd,yy,yw,ye,yw,yg,yj,C 8 [[yx,yA,yz,Z,I 984,yx,yx,yx]]],tt,[]⟩:=run' gU.is tK
theorem aq6:bB ⟨163,yf,[yc,yb,yh,yd,yy,yw,ye,yw,yg,yj,C 8 [[yx,yA,yz,Z,I 987,yx,yx,yx]]],tt,[]⟩:=run' gU.is tK
theorem aq7:bB ⟨163,yf,[yc,yb,yh,yd,yy,yw,ye,yw,yg,yj,C 8 [[yx,yA,yz,Z,I 1008,yx,yx,yx]]],tt,[]⟩:=run' gU.is tK
end Go.Proofs.YtpmfjipaheolgaaGreatDoor.TT

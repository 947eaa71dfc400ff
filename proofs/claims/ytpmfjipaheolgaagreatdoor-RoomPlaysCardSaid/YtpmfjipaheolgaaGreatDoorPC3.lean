/- Calls of the fixed example, each computed by the kernel; no condition. -/
import Derived.Test.YtpmfjipaheolgaaGreatDoorPB0
set_option linter.all false
namespace Go.Proofs.YtpmfjipaheolgaaGreatDoor.TT
open Go Go.AM
set_option maxRecDepth 1000000
open Nat (beq ble blt)
theorem aq1:bB ⟨36,[yk,yB,yE,yA,A [yD,I 1200]],ya,V [yC,yx],[]⟩:=run' ahQ.is tK
theorem aq2:bB ⟨163,yf,[yc,yb,yh,yd,yy,yw,ye,yw,yg,yj,C 8 [[yx,yA,yz,Z,I 990,yx,yx,yx]]],tt,[]⟩:=run' gU.is tK
theorem aq3:bB ⟨163,yf,[yc,yb,yh,yd,yy,yw,ye,yw,yg,yj,C 8 [[yx,yA,yz,Z,I 995,yx,yx,yx]]],tt,[]⟩:=run' gU.is tK
end Go.Proofs.YtpmfjipaheolgaaGreatDoor.TT

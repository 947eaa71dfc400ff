/- Calls of the fixed example, each computed by the kernel; no condition. -/
import Derived.Test.YtpmfjipaheolgaaGreatDoorPC1
set_option linter.all false
namespace Go.Proofs.YtpmfjipaheolgaaGreatDoor.TT
open Go Go.AM
set_option maxRecDepth 1000000
open Nat (beq ble blt)
theorem apX:bB ⟨422,yv,[C 3 [ym,yp,yq,[yE,yF,yF],[yx,yC,I 1050],[yC,yx,J 949],[yC,I 4,yx],[I 4,yC,yx],[yx,yB,I 1101],[yB,yx,J 1098],yr,ys,[yE,I 4,I 101],[I 4,yE,J 98],[yx,I 6,I 1100],[I 6,yx,J 1099]]],V [Z,ff],[]⟩:=run' Nw tK
theorem apY:bB ⟨422,yv,[C 3 [ym,yp,yq,[yE,yF,yF],[yx,yC,I 1050],[yC,yx,J 949],[yC,I 4,yx],[I 4,yC,yx],[yx,yB,I 1101],[yB,yx,J 1098],yr,ys,[yE,I 6,I 101],[I 6,yE,J 98],[yx,I 4,I 1100],[I 4,yx,J 1099]]],V [Z,ff],[]⟩:=run' Nw tK
theorem apZ:bB ⟨35,[yk,I 12],ya,V [U 22 0 2 2,yx],[C 2 [[yE,yE],[yE,yC]]]⟩:=run' ala.is (qP apU (qP agW (qP apS (qP apX (qP apY tK)))))
theorem aq0:bB ⟨36,[yk,I 9,yE,yA,A [yD,I 1200]],ya,V [yF,yx],[]⟩:=run' ahQ.is (qP ai3 (qP apT tK))
end Go.Proofs.YtpmfjipaheolgaaGreatDoor.TT

/- Calls of the fixed example, each computed by the kernel; no condition. -/
import Derived.Test.YtpmfjipaheolgaaGreatDoorPB0
set_option linter.all false
namespace Go.Proofs.YtpmfjipaheolgaaGreatDoor.TT
open Go Go.AM
set_option maxRecDepth 1000000
open Nat (beq ble blt)
theorem apS:bB ⟨422,[A [I 8,U 15 0 18 3],j5.nilMap],[C 3 [ym,yp,yq,[yE,yF,yx],[yE,yC,yx],[yC,yE,yF],[yx,I 4,I 1050],[I 4,yx,J 949],[I 4,yB,yx],[yB,I 4,yx],yr,ys,[yx,I 7,I 1101],[I 7,yx,J 1098],[yB,yE,I 11],[yE,yB,I 6],[yC,I 6,I 101],[I 6,yC,J 98]]],V [Z,ff],[]⟩:=run' Nw tK
theorem apT:bB ⟨150,[yl],yi,U 24 0 1 1,[C 1 [[S 25 0 1 1],[Z]],C 1 [[U 26 0 2 1]],C 1 [[yC],[yE]]]⟩:=run' agV.is (qP apS tK)
theorem ai3:bB ⟨82,[yl,yE,yA],yi,V [U 24 0 1 3,yx],yo⟩:=run' alb.is (qP apT tK)
theorem avs:bB ⟨34,[yk,I 9,yE,yA],ya,yt,yo⟩:=run' ab1.is (qP ai3 tK)
theorem apU:bB ⟨422,yu,[C 3 [ym,yp,yq,[yE,yF,yx],[yE,yC,yx],[yC,yE,yF],[yx,I 4,I 1050],[I 4,yx,J 949],[I 4,yB,yx],[yB,I 4,yx],yr,ys,[yx,I 7,I 1101],[I 7,yx,J 1098],[I 7,I 8,yx],[I 8,I 7,yx],[yB,yE,I 11],[yE,yB,I 6],[yC,I 6,I 101],[I 6,yC,J 98],[yx,I 8,I 1100],[I 8,yx,J 1099]]],V [Z,ff],[]⟩:=run' Nw tK
theorem agW:bB ⟨422,yu,[C 3 [ym,yp,yq,[yE,yF,yx],[yE,yC,yx],[yC,yE,yF],[yx,I 4,I 1050],[I 4,yx,J 949],[I 4,yB,yx],[yB,I 4,yx],yr,ys,[yx,I 7,I 1101],[I 7,yx,J 1098],[I 7,I 8,yx],[I 8,I 7,yx],[yB,yE,I 11],[yE,yB,I 6],[yC,I 8,I 101],[I 8,yC,J 98],[yx,I 6,I 1100],[I 6,yx,J 1099]]],V [Z,ff],[]⟩:=run' Nw tK
theorem apV:bB ⟨34,[yk,I 12,yE,yA],ya,V [Z,yB],[]⟩:=run' ab1.is (qP apU (qP agW tK))
theorem apW:bB ⟨34,[yk,I 20,yE,yA],ya,yt,yo⟩:=run' ab1.is (qP ai3 tK)
end Go.Proofs.YtpmfjipaheolgaaGreatDoor.TT

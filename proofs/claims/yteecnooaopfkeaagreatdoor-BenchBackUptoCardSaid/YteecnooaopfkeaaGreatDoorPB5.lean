/- The functions of the mask compile; no condition. -/
import Derived.Test.YteecnooaopfkeaaGreatDoorPB6
set_option linter.all false
namespace Go.Proofs.YteecnooaopfkeaaGreatDoor.TT
open Go Go.AM
set_option maxRecDepth 100000
theorem qa0:PD Tryz.prog mQ 0 103=true:=by kernel_rfl
theorem qa1:PD Tryz.prog mQ 103 103=true:=by kernel_rfl
theorem qa2:PD Tryz.prog mQ 206 103=true:=by kernel_rfl
end Go.Proofs.YteecnooaopfkeaaGreatDoor.TT

/- The functions of the mask compile; no condition. -/
import Derived.Test.YteecnooaopfkeaaGreatDoorPB6
set_option linter.all false
namespace Go.Proofs.YteecnooaopfkeaaGreatDoor.TT
open Go Go.AM
set_option maxRecDepth 100000
theorem qa3:PD Tryz.prog mQ 309 103=true:=by kernel_rfl
theorem qa4:PD Tryz.prog mQ 412 103=true:=by kernel_rfl
theorem qa5:PD Tryz.prog mQ 515 103=true:=by kernel_rfl
end Go.Proofs.YteecnooaopfkeaaGreatDoor.TT

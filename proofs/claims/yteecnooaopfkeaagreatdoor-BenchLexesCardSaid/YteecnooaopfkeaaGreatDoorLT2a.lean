/- A part of the tie; no condition. -/
import Derived.Test.YteecnooaopfkeaaGreatDoorLT1
import Derived.Test.YteecnooaopfkeaaGreatDoorChecked
set_option linter.unusedSimpArgs false
set_option linter.unusedVariables false
namespace Go.Proofs.YteecnooaopfkeaaGreatDoor.TT
open Go
set_option maxRecDepth 100000
theorem acy:Tryz.prog.worded (varsWordLater true)=true:=by kernel_rfl
end Go.Proofs.YteecnooaopfkeaaGreatDoor.TT

/- A part of the tie; no condition. -/
import Derived.Test.YteecnooaopfkeaaGreatDoorPT1
import Derived.Test.YteecnooaopfkeaaGreatDoorChecked
set_option linter.all false
namespace Go.Proofs.YteecnooaopfkeaaGreatDoor.TT
open Go
set_option maxRecDepth 100000
theorem acU:Tryz.prog.worded rootWordLater=true:=by kernel_rfl
end Go.Proofs.YteecnooaopfkeaaGreatDoor.TT

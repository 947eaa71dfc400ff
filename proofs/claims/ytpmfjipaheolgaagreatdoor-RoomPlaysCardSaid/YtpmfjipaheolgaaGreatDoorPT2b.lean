/- A part of the tie; no condition. -/
import Derived.Test.YtpmfjipaheolgaaGreatDoorPT1
import Derived.Test.YtpmfjipaheolgaaGreatDoorChecked
set_option linter.all false
namespace Go.Proofs.YtpmfjipaheolgaaGreatDoor.TT
open Go
set_option maxRecDepth 100000
theorem ajg:Tryz.prog.worded (varsWordLater !true)=false:=by kernel_rfl
end Go.Proofs.YtpmfjipaheolgaaGreatDoor.TT

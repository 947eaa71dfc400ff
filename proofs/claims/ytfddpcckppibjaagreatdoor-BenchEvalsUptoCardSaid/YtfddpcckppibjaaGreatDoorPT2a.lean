/- A part of the tie; no condition. -/
import Derived.Test.YtfddpcckppibjaaGreatDoorPT1
import Derived.Test.YtfddpcckppibjaaGreatDoorChecked
set_option linter.all false
namespace Go.Proofs.YtfddpcckppibjaaGreatDoor.TT
open Go
set_option maxRecDepth 100000
theorem ain:Tryz.prog.worded (varsWordLater true)=true:=by kernel_rfl
end Go.Proofs.YtfddpcckppibjaaGreatDoor.TT

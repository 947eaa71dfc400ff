/- A part of the tie; no condition. -/
import Derived.Test.YtcnimimffiiimaaGreatDoorPT1
import Derived.Test.YtcnimimffiiimaaGreatDoorChecked
set_option linter.all false
namespace Go.Proofs.YtcnimimffiiimaaGreatDoor.TT
open Go
set_option maxRecDepth 100000
theorem adr:Tryz.prog.worded (varsWordLater !true)=false:=by kernel_rfl
end Go.Proofs.YtcnimimffiiimaaGreatDoor.TT

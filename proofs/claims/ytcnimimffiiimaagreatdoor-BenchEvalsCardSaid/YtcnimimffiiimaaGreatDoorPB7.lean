/- The functions of the mask compile; no condition. -/
import Derived.Test.YtcnimimffiiimaaGreatDoorPB6
set_option linter.all false
namespace Go.Proofs.YtcnimimffiiimaaGreatDoor.TT
open Go Go.AM
set_option maxRecDepth 100000
theorem qa3:Lh Tryz.prog mQ 306 102=true:=by kernel_rfl
theorem qa4:Lh Tryz.prog mQ 408 102=true:=by kernel_rfl
theorem qa5:Lh Tryz.prog mQ 510 102=true:=by kernel_rfl
end Go.Proofs.YtcnimimffiiimaaGreatDoor.TT

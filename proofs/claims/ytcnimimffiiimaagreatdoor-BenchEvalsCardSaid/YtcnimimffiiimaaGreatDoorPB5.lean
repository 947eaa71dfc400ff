/- The functions of the mask compile; no condition. -/
import Derived.Test.YtcnimimffiiimaaGreatDoorPB6
set_option linter.all false
namespace Go.Proofs.YtcnimimffiiimaaGreatDoor.TT
open Go Go.AM
set_option maxRecDepth 100000
theorem qa0:Lh Tryz.prog mQ 0 102=true:=by kernel_rfl
theorem qa1:Lh Tryz.prog mQ 102 102=true:=by kernel_rfl
theorem qa2:Lh Tryz.prog mQ 204 102=true:=by kernel_rfl
end Go.Proofs.YtcnimimffiiimaaGreatDoor.TT

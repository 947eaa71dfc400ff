/- Calls of the fixed example, each computed by the kernel; no condition. -/
import Derived.Test.YtcnimimffiiimaaGreatDoorPC0
set_option linter.all false
namespace Go.Proofs.YtcnimimffiiimaaGreatDoor.TT
open Go Go.AM
set_option maxRecDepth 1000000
theorem aoB:aK q40:=run ac8 (l:=[]) trivial (by decide +kernel)
end Go.Proofs.YtcnimimffiiimaaGreatDoor.TT

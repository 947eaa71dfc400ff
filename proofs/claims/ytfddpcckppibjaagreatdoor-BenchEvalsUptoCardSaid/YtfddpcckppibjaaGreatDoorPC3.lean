/- Calls of the fixed example, each computed by the kernel; no condition. -/
import Derived.Test.YtfddpcckppibjaaGreatDoorPC0
set_option linter.all false
namespace Go.Proofs.YtfddpcckppibjaaGreatDoor.TT
open Go Go.AM
set_option maxRecDepth 1000000
theorem aoC:aK q40:=run ac9 (l:=[]) trivial (by decide +kernel)
end Go.Proofs.YtfddpcckppibjaaGreatDoor.TT

/- Calls of the fixed example, each computed by the kernel; no condition. -/
import Derived.Test.YtfddpcckppibjaaGreatDoorPC0
set_option linter.all false
namespace Go.Proofs.YtfddpcckppibjaaGreatDoor.TT
open Go Go.AM
set_option maxRecDepth 1000000
theorem aqQ:bL q38:=run ak0 (l:=[]) trivial (by decide +kernel)
theorem aqR:bL q39:=run ajX (l:=[q38]) ⟨aqQ,trivial⟩ (by decide +kernel)
end Go.Proofs.YtfddpcckppibjaaGreatDoor.TT

/- Calls of the fixed example, each computed by the kernel; no condition. -/
import Derived.Test.YtfddpcckppibjaaGreatDoorPC0
set_option linter.all false
namespace Go.Proofs.YtfddpcckppibjaaGreatDoor.TT
open Go Go.AM
set_option maxRecDepth 1000000
theorem ar2:bL q24:=run ak0 (l:=[]) trivial (by decide +kernel)
theorem ake:bL q25:=run ajX (l:=[q24]) ⟨ar2,trivial⟩ (by decide +kernel)
theorem akf:bL q26:=run aeQ (l:=[]) trivial (by decide +kernel)
end Go.Proofs.YtfddpcckppibjaaGreatDoor.TT

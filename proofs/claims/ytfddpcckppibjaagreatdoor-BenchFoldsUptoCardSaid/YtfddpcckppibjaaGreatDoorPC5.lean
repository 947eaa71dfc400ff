/- Calls of the fixed example, each computed by the kernel; no condition. -/
import Derived.Test.YtfddpcckppibjaaGreatDoorPC4
set_option linter.all false
namespace Go.Proofs.YtfddpcckppibjaaGreatDoor.TT
open Go Go.AM
set_option maxRecDepth 1000000
theorem ar3:bL q30:=run aeS (l:=[q25,q26]) ⟨ake,akf,trivial⟩ (by decide +kernel)
theorem ar4:bL q29:=run aeS (l:=[q25,q26]) ⟨ake,akf,trivial⟩ (by decide +kernel)
theorem ar5:bL q18:=run aqC (l:=[]) trivial (by decide +kernel)
end Go.Proofs.YtfddpcckppibjaaGreatDoor.TT

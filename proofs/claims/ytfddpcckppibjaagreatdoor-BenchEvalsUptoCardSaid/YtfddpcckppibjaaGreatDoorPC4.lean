/- Calls of the fixed example, each computed by the kernel; no condition. -/
import Derived.Test.YtfddpcckppibjaaGreatDoorPC0
set_option linter.all false
namespace Go.Proofs.YtfddpcckppibjaaGreatDoor.TT
open Go Go.AM
set_option maxRecDepth 1000000
theorem aoD:aK q24:=run ahL (l:=[]) trivial (by decide +kernel)
theorem ahX:aK q25:=run ahI (l:=[q24]) ⟨aoD,trivial⟩ (by decide +kernel)
theorem ahY:aK q26:=run ac9 (l:=[]) trivial (by decide +kernel)
end Go.Proofs.YtfddpcckppibjaaGreatDoor.TT

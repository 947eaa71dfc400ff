/- Calls of the fixed example, each computed by the kernel; no condition. -/
import Derived.Test.YtfddpcckppibjaaGreatDoorPC0
set_option linter.all false
namespace Go.Proofs.YtfddpcckppibjaaGreatDoor.TT
open Go Go.AM
set_option maxRecDepth 1000000
theorem aoV:bC q24:=run aiY (l:=[]) trivial (by decide +kernel)
theorem aja:bC q25:=run aiV (l:=[q24]) ⟨aoV,trivial⟩ (by decide +kernel)
theorem ajb:bC q26:=run aei (l:=[]) trivial (by decide +kernel)
end Go.Proofs.YtfddpcckppibjaaGreatDoor.TT

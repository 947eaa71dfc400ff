/- Calls of the fixed example, each computed by the kernel; no condition. -/
import Derived.Test.YtcnimimffiiimaaGreatDoorPC0
set_option linter.all false
namespace Go.Proofs.YtcnimimffiiimaaGreatDoor.TT
open Go Go.AM
set_option maxRecDepth 1000000
theorem aoC:aK q24:=run ahK (l:=[]) trivial (by decide +kernel)
theorem ahW:aK q25:=run ahH (l:=[q24]) ⟨aoC,trivial⟩ (by decide +kernel)
theorem ahX:aK q26:=run ac8 (l:=[]) trivial (by decide +kernel)
end Go.Proofs.YtcnimimffiiimaaGreatDoor.TT

/- Calls of the fixed example, each computed by the kernel; no condition. -/
import Derived.Test.YtcnimimffiiimaaGreatDoorPC0
set_option linter.all false
namespace Go.Proofs.YtcnimimffiiimaaGreatDoor.TT
open Go Go.AM
set_option maxRecDepth 1000000
theorem aoq:aK q38:=run ahK (l:=[]) trivial (by decide +kernel)
theorem aor:aK q39:=run ahH (l:=[q38]) ⟨aoq,trivial⟩ (by decide +kernel)
end Go.Proofs.YtcnimimffiiimaaGreatDoor.TT

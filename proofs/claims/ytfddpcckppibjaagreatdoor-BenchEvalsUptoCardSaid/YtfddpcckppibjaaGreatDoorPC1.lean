/- Calls of the fixed example, each computed by the kernel; no condition. -/
import Derived.Test.YtfddpcckppibjaaGreatDoorPC0
set_option linter.all false
namespace Go.Proofs.YtfddpcckppibjaaGreatDoor.TT
open Go Go.AM
set_option maxRecDepth 1000000
theorem aor:aK q38:=run ahL (l:=[]) trivial (by decide +kernel)
theorem aos:aK q39:=run ahI (l:=[q38]) ⟨aor,trivial⟩ (by decide +kernel)
end Go.Proofs.YtfddpcckppibjaaGreatDoor.TT

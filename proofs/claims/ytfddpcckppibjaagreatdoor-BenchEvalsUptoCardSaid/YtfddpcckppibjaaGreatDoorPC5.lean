/- Calls of the fixed example, each computed by the kernel; no condition. -/
import Derived.Test.YtfddpcckppibjaaGreatDoorPC4
set_option linter.all false
namespace Go.Proofs.YtfddpcckppibjaaGreatDoor.TT
open Go Go.AM
set_option maxRecDepth 1000000
theorem aoE:aK q30:=run acj (l:=[q25,q26]) ⟨ahX,ahY,trivial⟩ (by decide +kernel)
theorem aoF:aK q29:=run acj (l:=[q25,q26]) ⟨ahX,ahY,trivial⟩ (by decide +kernel)
theorem aoG:aK q18:=run aod (l:=[]) trivial (by decide +kernel)
end Go.Proofs.YtfddpcckppibjaaGreatDoor.TT

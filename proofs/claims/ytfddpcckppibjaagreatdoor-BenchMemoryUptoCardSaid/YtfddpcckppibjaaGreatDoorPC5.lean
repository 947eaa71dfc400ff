/- Calls of the fixed example, each computed by the kernel; no condition. -/
import Derived.Test.YtfddpcckppibjaaGreatDoorPC4
set_option linter.all false
namespace Go.Proofs.YtfddpcckppibjaaGreatDoor.TT
open Go Go.AM
set_option maxRecDepth 1000000
theorem aoW:bC q30:=run aek (l:=[q25,q26]) ⟨aja,ajb,trivial⟩ (by decide +kernel)
theorem aoX:bC q29:=run aek (l:=[q25,q26]) ⟨aja,ajb,trivial⟩ (by decide +kernel)
theorem aoY:bC q18:=run aov (l:=[]) trivial (by decide +kernel)
end Go.Proofs.YtfddpcckppibjaaGreatDoor.TT

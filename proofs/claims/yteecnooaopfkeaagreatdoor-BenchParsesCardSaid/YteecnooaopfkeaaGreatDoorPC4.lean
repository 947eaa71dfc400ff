/- Calls of the fixed example, each computed by the kernel; no condition. -/
import Derived.Test.YteecnooaopfkeaaGreatDoorPC0
set_option linter.all false
namespace Go.Proofs.YteecnooaopfkeaaGreatDoor.TT
open Go Go.AM
set_option maxRecDepth 1000000
theorem amG:bF q24:=run is8 (l:=[]) trivial (by decide +kernel)
theorem agm:bF q25:=run ac6 (l:=[q24]) ⟨amG,trivial⟩ (by decide +kernel)
theorem agn:bF q26:=run ag6 (l:=[]) trivial (by decide +kernel)
end Go.Proofs.YteecnooaopfkeaaGreatDoor.TT

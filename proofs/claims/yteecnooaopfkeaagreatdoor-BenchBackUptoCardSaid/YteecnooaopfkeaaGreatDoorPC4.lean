/- Calls of the fixed example, each computed by the kernel; no condition. -/
import Derived.Test.YteecnooaopfkeaaGreatDoorPC0
set_option linter.all false
namespace Go.Proofs.YteecnooaopfkeaaGreatDoor.TT
open Go Go.AM
set_option maxRecDepth 1000000
theorem apR:dw q24:=run is8 (l:=[]) trivial (by decide +kernel)
theorem ajM:dw q25:=run afz (l:=[q24]) ⟨apR,trivial⟩ (by decide +kernel)
theorem ajN:dw q26:=run ajy (l:=[]) trivial (by decide +kernel)
end Go.Proofs.YteecnooaopfkeaaGreatDoor.TT

/- Calls of the fixed example, each computed by the kernel; no condition. -/
import Derived.Test.YteecnooaopfkeaaGreatDoorPC0
set_option linter.all false
namespace Go.Proofs.YteecnooaopfkeaaGreatDoor.TT
open Go Go.AM
set_option maxRecDepth 1000000
theorem apF:dw q38:=run is8 (l:=[]) trivial (by decide +kernel)
theorem apG:dw q39:=run afz (l:=[q38]) ⟨apF,trivial⟩ (by decide +kernel)
end Go.Proofs.YteecnooaopfkeaaGreatDoor.TT

/- Calls of the fixed example, each computed by the kernel; no condition. -/
import Derived.Test.YteecnooaopfkeaaGreatDoorLC0
set_option linter.unusedSimpArgs false
set_option linter.unusedVariables false
namespace Go.Proofs.YteecnooaopfkeaaGreatDoor.TT
open Go Go.AM
set_option maxRecDepth 1000000
theorem aic:X0 q38:=run is8 (l:=[]) trivial (by decide +kernel)
theorem aie:X0 q39:=run UQ (l:=[q38]) ⟨aic,trivial⟩ (by decide +kernel)
end Go.Proofs.YteecnooaopfkeaaGreatDoor.TT

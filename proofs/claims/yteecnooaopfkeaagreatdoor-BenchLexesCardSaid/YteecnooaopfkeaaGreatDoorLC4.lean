/- Calls of the fixed example, each computed by the kernel; no condition. -/
import Derived.Test.YteecnooaopfkeaaGreatDoorLC0
set_option linter.unusedSimpArgs false
set_option linter.unusedVariables false
namespace Go.Proofs.YteecnooaopfkeaaGreatDoor.TT
open Go Go.AM
set_option maxRecDepth 1000000
theorem ais:X0 q24:=run is8 (l:=[]) trivial (by decide +kernel)
theorem adP:X0 q25:=run UQ (l:=[q24]) ⟨ais,trivial⟩ (by decide +kernel)
theorem adQ:X0 q26:=run UR (l:=[]) trivial (by decide +kernel)
end Go.Proofs.YteecnooaopfkeaaGreatDoor.TT

/- Calls of the fixed example, each computed by the kernel; no condition. -/
import Derived.Test.YteecnooaopfkeaaGreatDoorLC4
set_option linter.unusedSimpArgs false
set_option linter.unusedVariables false
namespace Go.Proofs.YteecnooaopfkeaaGreatDoor.TT
open Go Go.AM
set_option maxRecDepth 1000000
theorem ait:X0 q30:=run Td (l:=[q25,q26]) ⟨adP,adQ,trivial⟩ (by decide +kernel)
theorem aiu:X0 q29:=run Td (l:=[q25,q26]) ⟨adP,adQ,trivial⟩ (by decide +kernel)
theorem aiv:X0 q18:=run adG (l:=[]) trivial (by decide +kernel)
end Go.Proofs.YteecnooaopfkeaaGreatDoor.TT

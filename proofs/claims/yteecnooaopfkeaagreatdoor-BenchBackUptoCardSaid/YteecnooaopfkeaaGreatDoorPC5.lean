/- Calls of the fixed example, each computed by the kernel; no condition. -/
import Derived.Test.YteecnooaopfkeaaGreatDoorPC4
set_option linter.all false
namespace Go.Proofs.YteecnooaopfkeaaGreatDoor.TT
open Go Go.AM
set_option maxRecDepth 1000000
theorem apS:dw q30:=run afD (l:=[q25,q26]) ⟨ajM,ajN,trivial⟩ (by decide +kernel)
theorem apT:dw q29:=run afD (l:=[q25,q26]) ⟨ajM,ajN,trivial⟩ (by decide +kernel)
theorem apU:dw q18:=run apr (l:=[]) trivial (by decide +kernel)
end Go.Proofs.YteecnooaopfkeaaGreatDoor.TT

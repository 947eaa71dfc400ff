/- Calls of the fixed example, each computed by the kernel; no condition. -/
import Derived.Test.YteecnooaopfkeaaGreatDoorPC4
set_option linter.all false
namespace Go.Proofs.YteecnooaopfkeaaGreatDoor.TT
open Go Go.AM
set_option maxRecDepth 1000000
theorem amH:bF q30:=run ac8 (l:=[q25,q26]) ⟨agm,agn,trivial⟩ (by decide +kernel)
theorem amI:bF q29:=run ac8 (l:=[q25,q26]) ⟨agm,agn,trivial⟩ (by decide +kernel)
theorem amJ:bF q18:=run amf (l:=[]) trivial (by decide +kernel)
end Go.Proofs.YteecnooaopfkeaaGreatDoor.TT

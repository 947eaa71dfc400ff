/- Calls of the fixed example, each computed by the kernel; no condition. -/
import Derived.Test.YteecnooaopfkeaaGreatDoorPC4
set_option linter.all false
namespace Go.Proofs.YteecnooaopfkeaaGreatDoor.TT
open Go Go.AM
set_option maxRecDepth 1000000
theorem aoA:bM q30:=run adA (l:=[q25,q26]) ⟨aip,aiq,trivial⟩ (by decide +kernel)
theorem aoB:bM q29:=run adA (l:=[q25,q26]) ⟨aip,aiq,trivial⟩ (by decide +kernel)
theorem aoC:bM q18:=run ao9 (l:=[]) trivial (by decide +kernel)
end Go.Proofs.YteecnooaopfkeaaGreatDoor.TT

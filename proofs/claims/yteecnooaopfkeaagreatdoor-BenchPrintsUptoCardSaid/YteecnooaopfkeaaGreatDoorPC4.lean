/- Calls of the fixed example, each computed by the kernel; no condition. -/
import Derived.Test.YteecnooaopfkeaaGreatDoorPC0
set_option linter.all false
namespace Go.Proofs.YteecnooaopfkeaaGreatDoor.TT
open Go Go.AM
set_option maxRecDepth 1000000
theorem aoz:bM q24:=run is8 (l:=[]) trivial (by decide +kernel)
theorem aip:bM q25:=run ai7 (l:=[q24]) ⟨aoz,trivial⟩ (by decide +kernel)
theorem aiq:bM q26:=run adx (l:=[]) trivial (by decide +kernel)
end Go.Proofs.YteecnooaopfkeaaGreatDoor.TT

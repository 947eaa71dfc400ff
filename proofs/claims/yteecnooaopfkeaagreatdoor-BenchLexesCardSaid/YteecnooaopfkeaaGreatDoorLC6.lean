/- Calls of the fixed example, each computed by the kernel; no condition. -/
import Derived.Test.YteecnooaopfkeaaGreatDoorLC1
import Derived.Test.YteecnooaopfkeaaGreatDoorLC2
import Derived.Test.YteecnooaopfkeaaGreatDoorLC3
set_option linter.unusedSimpArgs false
set_option linter.unusedVariables false
namespace Go.Proofs.YteecnooaopfkeaaGreatDoor.TT
open Go Go.AM
set_option maxRecDepth 1000000
theorem aiw:X0 q99:=run Td (l:=[q39,q40,q44,q50,q55,q58,q80,q62,q63,q64,q87,q92]) ⟨aie,air,aii,aij,aik,Tf,aio,adH,adI,adJ,aip,aiq,trivial⟩ (by decide +kernel)
end Go.Proofs.YteecnooaopfkeaaGreatDoor.TT

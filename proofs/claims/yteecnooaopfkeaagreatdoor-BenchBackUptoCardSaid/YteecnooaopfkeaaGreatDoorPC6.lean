/- Calls of the fixed example, each computed by the kernel; no condition. -/
import Derived.Test.YteecnooaopfkeaaGreatDoorPC1
import Derived.Test.YteecnooaopfkeaaGreatDoorPC2
import Derived.Test.YteecnooaopfkeaaGreatDoorPC3
set_option linter.all false
namespace Go.Proofs.YteecnooaopfkeaaGreatDoor.TT
open Go Go.AM
set_option maxRecDepth 1000000
theorem apV:dw q99:=run afD (l:=[q39,q40,q44,q50,q55,q58,q80,q62,q63,q64,q87,q92]) ⟨apG,apQ,apI,apJ,apK,abN,apN,ajE,ajF,ajG,apO,apP,trivial⟩ (by decide +kernel)
end Go.Proofs.YteecnooaopfkeaaGreatDoor.TT

/- Calls of the fixed example, each computed by the kernel; no condition. -/
import Derived.Test.YteecnooaopfkeaaGreatDoorPC5
import Derived.Test.YteecnooaopfkeaaGreatDoorPC6
set_option linter.all false
namespace Go.Proofs.YteecnooaopfkeaaGreatDoor.TT
open Go Go.AM
set_option maxRecDepth 1000000
def qS:Sum:=⟨7,[],[],.bool true,[]⟩
theorem qoS:dw qS:=run is7 (l:=[q30,q29,q99,q18]) ⟨apS,apT,apV,apU,trivial⟩ (by decide +kernel)
end Go.Proofs.YteecnooaopfkeaaGreatDoor.TT

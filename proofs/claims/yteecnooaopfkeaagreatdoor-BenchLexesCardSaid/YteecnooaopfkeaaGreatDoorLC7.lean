/- Calls of the fixed example, each computed by the kernel; no condition. -/
import Derived.Test.YteecnooaopfkeaaGreatDoorLC5
import Derived.Test.YteecnooaopfkeaaGreatDoorLC6
set_option linter.unusedSimpArgs false
set_option linter.unusedVariables false
namespace Go.Proofs.YteecnooaopfkeaaGreatDoor.TT
open Go Go.AM
set_option maxRecDepth 1000000
def qS:Sum:=⟨7,[],[],.bool true,[]⟩
theorem qoS:X0 qS:=run is7 (l:=[q30,q29,q99,q18]) ⟨ait,aiu,aiw,aiv,trivial⟩ (by decide +kernel)
end Go.Proofs.YteecnooaopfkeaaGreatDoor.TT

/- Calls of the fixed example, each computed by the kernel; no condition. -/
import Derived.Test.YtpmfjipaheolgaaGreatDoorPC1
import Derived.Test.YtpmfjipaheolgaaGreatDoorPC2
import Derived.Test.YtpmfjipaheolgaaGreatDoorPC3
import Derived.Test.YtpmfjipaheolgaaGreatDoorPC4
import Derived.Test.YtpmfjipaheolgaaGreatDoorPC5
import Derived.Test.YtpmfjipaheolgaaGreatDoorPC6
import Derived.Test.YtpmfjipaheolgaaGreatDoorPC7
import Derived.Test.YtpmfjipaheolgaaGreatDoorPC8
import Derived.Test.YtpmfjipaheolgaaGreatDoorPC9
import Derived.Test.YtpmfjipaheolgaaGreatDoorPC10
set_option linter.all false
namespace Go.Proofs.YtpmfjipaheolgaaGreatDoor.TT
open Go Go.AM
set_option maxRecDepth 1000000
open Nat (beq ble blt)
def qS:Sum:=⟨6,[],[],tt,[]⟩
theorem qoS:bB qS:=run' is6 (qP avt (qP avs (qP apV (qP apW (qP apZ (qP aq1 (qP aq0 (qP aq9 (qP aq5 (qP aqm (qP aqa (qP aq6 (qP aqr (qP aqc (qP aq2 (qP aqi (qP aqn (qP aqs (qP aqd (qP aq3 (qP aqf (qP aqo (qP aqt (qP aqj (qP aqe (qP aqu (qP aqk (qP aqp (qP aqg (qP aqh (qP aqb (qP aql (qP aq7 (qP ai6 (qP ai5 (qP ai4 tK))))))))))))))))))))))))))))))))))))
end Go.Proofs.YtpmfjipaheolgaaGreatDoor.TT

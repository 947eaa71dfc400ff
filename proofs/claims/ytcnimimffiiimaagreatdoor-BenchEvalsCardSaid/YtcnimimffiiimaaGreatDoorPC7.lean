/- Calls of the fixed example, each computed by the kernel; no condition. -/
import Derived.Test.YtcnimimffiiimaaGreatDoorPC5
import Derived.Test.YtcnimimffiiimaaGreatDoorPC6
set_option linter.all false
namespace Go.Proofs.YtcnimimffiiimaaGreatDoor.TT
open Go Go.AM
set_option maxRecDepth 1000000
def qS:Sum:=⟨7,[],[],.bool true,[]⟩
theorem qoS:aK qS:=run is7 (l:=[q30,q29,q99,q18]) ⟨aoD,aoE,aoG,aoF,trivial⟩ (by decide +kernel)
end Go.Proofs.YtcnimimffiiimaaGreatDoor.TT

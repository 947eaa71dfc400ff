/- Calls of the fixed example, each computed by the kernel; no condition. -/
import Derived.Test.YtcnimimffiiimaaGreatDoorPC1
import Derived.Test.YtcnimimffiiimaaGreatDoorPC2
import Derived.Test.YtcnimimffiiimaaGreatDoorPC3
set_option linter.all false
namespace Go.Proofs.YtcnimimffiiimaaGreatDoor.TT
open Go Go.AM
set_option maxRecDepth 1000000
theorem aoG:aK q99:=run aci (l:=[q39,q40,q44,q50,q55,q58,q80,q62,q63,q64,q87,q92]) ⟨aor,aoB,aot,aou,aov,YF,aoy,ahO,ahP,ahQ,aoz,aoA,trivial⟩ (by decide +kernel)
end Go.Proofs.YtcnimimffiiimaaGreatDoor.TT

/- Calls of the fixed example, each computed by the kernel; no condition. -/
import Derived.Test.YtfddpcckppibjaaGreatDoorPC1
import Derived.Test.YtfddpcckppibjaaGreatDoorPC2
import Derived.Test.YtfddpcckppibjaaGreatDoorPC3
set_option linter.all false
namespace Go.Proofs.YtfddpcckppibjaaGreatDoor.TT
open Go Go.AM
set_option maxRecDepth 1000000
theorem aoH:aK q99:=run acj (l:=[q39,q40,q44,q50,q55,q58,q80,q62,q63,q64,q87,q92]) ⟨aos,aoC,aou,aov,aow,YG,aoz,ahP,ahQ,ahR,aoA,aoB,trivial⟩ (by decide +kernel)
end Go.Proofs.YtfddpcckppibjaaGreatDoor.TT

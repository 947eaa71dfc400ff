/- Calls of the fixed example, each computed by the kernel; no condition. -/
import Derived.Test.YtfnlnpllpfhhnaaGreatDoorPC1
import Derived.Test.YtfnlnpllpfhhnaaGreatDoorPC2
import Derived.Test.YtfnlnpllpfhhnaaGreatDoorPC3
import Derived.Test.YtfnlnpllpfhhnaaGreatDoorPC4
import Derived.Test.YtfnlnpllpfhhnaaGreatDoorPC5
import Derived.Test.YtfnlnpllpfhhnaaGreatDoorPC6
import Derived.Test.YtfnlnpllpfhhnaaGreatDoorPC7
import Derived.Test.YtfnlnpllpfhhnaaGreatDoorPC8
import Derived.Test.YtfnlnpllpfhhnaaGreatDoorPC9
import Derived.Test.YtfnlnpllpfhhnaaGreatDoorPC10
set_option linter.all false
namespace Go.Proofs.YtfnlnpllpfhhnaaGreatDoor.TT
open Go Go.AM
set_option maxRecDepth 1000000
def qS:Sum:=⟨8,[],[],tt,[]⟩
theorem qoS:j5 qS:=run' is8 (o7 aEb (o7 aEk (o7 asI (o7 asL (o7 asY (o7 asZ (o7 at6 (o7 atH (o7 aud (o7 auT (o7 awR (o7 aw8 (o7 avy (o7 at7 (o7 aun (o7 auy (o7 avI (o7 ax1 (o7 av3 (o7 atj (o7 axb (o7 awk (o7 avS (o7 avd (o7 atv (o7 awu (o7 aw2 (o7 avn (o7 avx (o7 auI (o7 atS (o7 axl (o7 axw (o7 awG (o7 au2 (o7 auS (o7 awQ (o7 atF (o7 auc (o7 akU (o7 akF (o7 akP C9))))))))))))))))))))))))))))))))))))))))))
end Go.Proofs.YtfnlnpllpfhhnaaGreatDoor.TT

/- Calls of the fixed example, each computed by the kernel; no condition. -/
import Derived.Test.YtfnlnpllpfhhnaaGreatDoorQC1
import Derived.Test.YtfnlnpllpfhhnaaGreatDoorQC2
import Derived.Test.YtfnlnpllpfhhnaaGreatDoorQC3
import Derived.Test.YtfnlnpllpfhhnaaGreatDoorQC4
import Derived.Test.YtfnlnpllpfhhnaaGreatDoorQC5
import Derived.Test.YtfnlnpllpfhhnaaGreatDoorQC6
import Derived.Test.YtfnlnpllpfhhnaaGreatDoorQC7
import Derived.Test.YtfnlnpllpfhhnaaGreatDoorQC8
import Derived.Test.YtfnlnpllpfhhnaaGreatDoorQC9
import Derived.Test.YtfnlnpllpfhhnaaGreatDoorQC10
set_option linter.all false
namespace Go.Proofs.YtfnlnpllpfhhnaaGreatDoor.TT
open Go Go.AM
set_option maxRecDepth 1000000
def qS:Sum:=⟨8,[],[],tt,[]⟩
theorem qoS:l6 qS:=run' is8 (A9 aDx (A9 aDz (A9 as5 (A9 as8 (A9 asq (A9 asr (A9 asu (A9 awJ (A9 avf (A9 auv (A9 ata (A9 avY (A9 atL (A9 asv (A9 atX (A9 au8 (A9 avq (A9 awU (A9 auH (A9 asG (A9 ax5 (A9 aw9 (A9 auS (A9 avB (A9 asR (A9 av3 (A9 avM (A9 avX (A9 ave (A9 auj (A9 atm (A9 axg (A9 axr (A9 awm (A9 aty (A9 auu (A9 awx (A9 at7 (A9 atJ (A9 akv (A9 akh (A9 aks D6))))))))))))))))))))))))))))))))))))))))))
end Go.Proofs.YtfnlnpllpfhhnaaGreatDoor.TT

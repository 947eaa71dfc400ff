/- Calls of the fixed example, each computed by the kernel; no condition. -/
import Derived.Test.YtfnlnpllpfhhnaaGreatDoorYC10
set_option linter.unusedSimpArgs false
set_option linter.unusedVariables false
namespace Go.Proofs.YtfnlnpllpfhhnaaGreatDoor.TT
open Go Go.AM
set_option maxRecDepth 1000000
def qS:Sum:=⟨8,[],[],tt,[]⟩
theorem qoS:u7 qS:=run' is8 (okC av3 (okC avc (okC alh (okC alk (okC alA (okC alC (okC alF (okC adQ (okC adR (okC adW okN))))))))))
end Go.Proofs.YtfnlnpllpfhhnaaGreatDoor.TT

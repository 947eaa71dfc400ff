/- A part of the tie; no condition. -/
import Derived.Test.YtfnlnpllpfhhnaaGreatDoorQT1
import Derived.Test.YtfnlnpllpfhhnaaGreatDoorChecked
set_option linter.all false
namespace Go.Proofs.YtfnlnpllpfhhnaaGreatDoor.TT
open Go
set_option maxRecDepth 100000
theorem ayq:Tryz.prog.worded (varsWordLater true)=true:=by kernel_rfl
end Go.Proofs.YtfnlnpllpfhhnaaGreatDoor.TT

/- A part of the tie; no condition. -/
import Derived.Test.YtfnlnpllpfhhnaaGreatDoorQT1
import Derived.Test.YtfnlnpllpfhhnaaGreatDoorChecked
set_option linter.all false
namespace Go.Proofs.YtfnlnpllpfhhnaaGreatDoor.TT
open Go
set_option maxRecDepth 100000
theorem ag7:(Tryz.prog.funcNamed "gosem.cut.vars").isSome=true:=by kernel_rfl
end Go.Proofs.YtfnlnpllpfhhnaaGreatDoor.TT

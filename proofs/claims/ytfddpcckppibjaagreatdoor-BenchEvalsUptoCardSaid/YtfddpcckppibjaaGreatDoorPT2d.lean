/- A part of the tie; no condition. -/
import Derived.Test.YtfddpcckppibjaaGreatDoorPT1
import Derived.Test.YtfddpcckppibjaaGreatDoorChecked
set_option linter.all false
namespace Go.Proofs.YtfddpcckppibjaaGreatDoor.TT
open Go
set_option maxRecDepth 100000
theorem ZI:(Tryz.prog.funcNamed "gosem.cut.vars").isSome=true:=by kernel_rfl
end Go.Proofs.YtfddpcckppibjaaGreatDoor.TT

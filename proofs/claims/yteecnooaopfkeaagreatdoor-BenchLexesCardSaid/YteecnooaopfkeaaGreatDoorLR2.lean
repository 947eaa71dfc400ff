/- The program is laid out well; no condition. -/
import Derived.Test.YteecnooaopfkeaaGreatDoorLR1
set_option linter.unusedSimpArgs false
set_option linter.unusedVariables false
namespace Go.Proofs.YteecnooaopfkeaaGreatDoor.TT
open Go
set_option maxRecDepth 100000
theorem loF:Tryz.prog.funcs.all (fun f=>f.params.all fun t=>decide (t<Tryz.prog.types.size))=true:=by kernel_rfl
theorem laidOut:laidOutB Tryz.prog=true:=by
 unfold laidOutB
 rw [loT,loG,loF];rfl
end Go.Proofs.YteecnooaopfkeaaGreatDoor.TT

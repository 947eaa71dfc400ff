/- The program is laid out well; no condition. -/
import Derived.Test.YtcnimimffiiimaaGreatDoorPR1
set_option linter.all false
namespace Go.Proofs.YtcnimimffiiimaaGreatDoor.TT
open Go
set_option maxRecDepth 100000
theorem loF:Tryz.prog.funcs.all (λf=>f.params.all λt=>decide (t<Tryz.prog.types.size))=true:=by kernel_rfl
theorem laidOut:laidOutB Tryz.prog=true:=by unfold laidOutB;rw [loT,loG,loF];rfl
end Go.Proofs.YtcnimimffiiimaaGreatDoor.TT

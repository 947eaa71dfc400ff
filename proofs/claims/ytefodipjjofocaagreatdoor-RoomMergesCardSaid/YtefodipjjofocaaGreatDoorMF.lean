/- The card of RoomMerges holds: for every input that the row admits the law returns true and leaves its arguments; no further condition. -/
import Derived.Test.YtefodipjjofocaaGreatDoorMD3
import Derived.Test.YtefodipjjofocaaGreatDoorME1
set_option linter.unusedSimpArgs false
set_option linter.unusedVariables false
namespace Go.Proofs.YtefodipjjofocaaGreatDoor.TT
open Go Go.AM
set_option maxRecDepth 100000
theorem atU:Rows.RoomMergesSaid:=YJ fun os started H enc _=>TU os started H enc
theorem roomMerges_card:Rows.RoomMergesCardSaid:=ak6 atU
end Go.Proofs.YtefodipjjofocaaGreatDoor.TT

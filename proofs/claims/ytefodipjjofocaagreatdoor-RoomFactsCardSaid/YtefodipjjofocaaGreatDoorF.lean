/- The card of RoomFacts holds: for every input that the row admits the law returns true and leaves its arguments; no further condition. -/
import Derived.Test.YtefodipjjofocaaGreatDoorD3
import Derived.Test.YtefodipjjofocaaGreatDoorE1
set_option linter.unusedSimpArgs false
set_option linter.unusedVariables false
namespace Go.Proofs.YtefodipjjofocaaGreatDoor.TT
open Go Go.AM
set_option maxRecDepth 100000
theorem aqU:Rows.RoomFactsSaid:=Vi fun os started H enc _=>lifted os started H enc
theorem roomFacts_card:Rows.RoomFactsCardSaid:=ahr aqU
end Go.Proofs.YtefodipjjofocaaGreatDoor.TT

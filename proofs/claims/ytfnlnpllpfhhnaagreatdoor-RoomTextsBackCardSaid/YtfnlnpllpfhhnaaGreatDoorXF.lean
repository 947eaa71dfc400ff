/- The card of RoomTextsBack holds: for every input that the row admits the law returns true and leaves its arguments; no further condition. -/
import Derived.Test.YtfnlnpllpfhhnaaGreatDoorXG1
set_option linter.unusedSimpArgs false
set_option linter.unusedVariables false
namespace Go.Proofs.YtfnlnpllpfhhnaaGreatDoor.TT
open Go Go.AM
set_option maxRecDepth 100000
theorem an7:Rows.RoomTextsBackSaid:=aam fun os started H enc _=>TD os started H enc
theorem roomTextsBack_card:Rows.RoomTextsBackCardSaid:=amO an7
end Go.Proofs.YtfnlnpllpfhhnaaGreatDoor.TT

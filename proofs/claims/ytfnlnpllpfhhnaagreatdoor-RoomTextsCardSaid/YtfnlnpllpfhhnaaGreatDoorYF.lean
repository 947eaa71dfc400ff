/- The card of RoomTexts holds: for every input that the row admits the law returns true and leaves its arguments; no further condition. -/
import Derived.Test.YtfnlnpllpfhhnaaGreatDoorYG1
set_option linter.unusedSimpArgs false
set_option linter.unusedVariables false
namespace Go.Proofs.YtfnlnpllpfhhnaaGreatDoor.TT
open Go Go.AM
set_option maxRecDepth 100000
theorem aqU:Rows.RoomTextsSaid:=adX fun os started H enc _=>Yl os started H enc
theorem roomTexts_card:Rows.RoomTextsCardSaid:=aqA aqU
end Go.Proofs.YtfnlnpllpfhhnaaGreatDoor.TT

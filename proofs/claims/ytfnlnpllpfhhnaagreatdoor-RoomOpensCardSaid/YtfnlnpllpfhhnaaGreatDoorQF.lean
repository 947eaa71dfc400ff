/- The card of RoomOpens holds: for every input that the row admits the law returns true and leaves its arguments; no further condition. -/
import Derived.Test.YtfnlnpllpfhhnaaGreatDoorQG1
set_option linter.all false
namespace Go.Proofs.YtfnlnpllpfhhnaaGreatDoor.TT
open Go Go.AM
set_option maxRecDepth 100000
theorem ayV:Rows.RoomOpensSaid:=alG λc a H b _=>ags c a H b
theorem roomOpens_card:Rows.RoomOpensCardSaid:=ayD ayV
end Go.Proofs.YtfnlnpllpfhhnaaGreatDoor.TT

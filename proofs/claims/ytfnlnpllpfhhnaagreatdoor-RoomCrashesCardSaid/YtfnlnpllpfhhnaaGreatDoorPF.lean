/- The card of RoomCrashes holds: for every input that the row admits the law returns true and leaves its arguments; no further condition. -/
import Derived.Test.YtfnlnpllpfhhnaaGreatDoorPG1
set_option linter.all false
namespace Go.Proofs.YtfnlnpllpfhhnaaGreatDoor.TT
open Go Go.AM
set_option maxRecDepth 100000
theorem ayJ:Rows.RoomCrashesSaid:=alR λc a H b _=>agG c a H b
theorem roomCrashes_card:Rows.RoomCrashesCardSaid:=ays ayJ
end Go.Proofs.YtfnlnpllpfhhnaaGreatDoor.TT

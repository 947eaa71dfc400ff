/- The card of RoomPlays holds: for every input that the row admits the law returns true and leaves its arguments; no further condition. -/
import Derived.Test.YtpmfjipaheolgaaGreatDoorPG1
set_option linter.all false
namespace Go.Proofs.YtpmfjipaheolgaaGreatDoor.TT
open Go Go.AM
set_option maxRecDepth 100000
theorem as7:Rows.RoomPlaysSaid:=ajf λc a H b _=>agy c a H b
theorem roomPlays_card:Rows.RoomPlaysCardSaid:=arM as7
end Go.Proofs.YtpmfjipaheolgaaGreatDoor.TT

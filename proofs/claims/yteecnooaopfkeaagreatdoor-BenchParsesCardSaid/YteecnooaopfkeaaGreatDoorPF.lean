/- The card of BenchParses holds: for every input that the row admits the law returns true and leaves its arguments; no further condition. -/
import Derived.Test.YteecnooaopfkeaaGreatDoorPG1
set_option linter.all false
namespace Go.Proofs.YteecnooaopfkeaaGreatDoor.TT
open Go Go.AM
set_option maxRecDepth 100000
theorem ahk:Rows.BenchParsesSaid:=acU λos started H enc _=>ZR os started H enc
theorem benchParses_card:Rows.BenchParsesCardSaid:=ahb ahk
end Go.Proofs.YteecnooaopfkeaaGreatDoor.TT

/- The card of BenchBack holds: for every input that the row admits the law returns true and leaves its arguments; no further condition. -/
import Derived.Test.YteecnooaopfkeaaGreatDoorPG1
set_option linter.all false
namespace Go.Proofs.YteecnooaopfkeaaGreatDoor.TT
open Go Go.AM
set_option maxRecDepth 100000
theorem al4:Rows.BenchBackUptoSaid:=agv λc a H b _=>λF=>ada c a H b F
theorem benchBack_card:Rows.BenchBackUptoCardSaid:=akV al4
end Go.Proofs.YteecnooaopfkeaaGreatDoor.TT

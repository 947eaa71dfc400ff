/- The card of BenchPrints holds: for every input that the row admits the law returns true and leaves its arguments; no further condition. -/
import Derived.Test.YteecnooaopfkeaaGreatDoorPG1
set_option linter.all false
namespace Go.Proofs.YteecnooaopfkeaaGreatDoor.TT
open Go Go.AM
set_option maxRecDepth 100000
theorem ajo:Rows.BenchPrintsUptoSaid:=aew λc a H b _=>λF=>aaR c a H b F
theorem benchPrints_card:Rows.BenchPrintsUptoCardSaid:=ajf ajo
end Go.Proofs.YteecnooaopfkeaaGreatDoor.TT

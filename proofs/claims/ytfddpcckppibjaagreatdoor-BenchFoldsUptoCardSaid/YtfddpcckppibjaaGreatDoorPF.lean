/- The card of BenchFolds holds: for every input that the row admits the law returns true and leaves its arguments; no further condition. -/
import Derived.Test.YtfddpcckppibjaaGreatDoorPG1
set_option linter.all false
namespace Go.Proofs.YtfddpcckppibjaaGreatDoor.TT
open Go Go.AM
set_option maxRecDepth 100000
theorem al8:Rows.BenchFoldsUptoSaid:=ag8 λc a H b _=>λF=>acs c a H b F
theorem benchFolds_card:Rows.BenchFoldsUptoCardSaid:=akY al8
end Go.Proofs.YtfddpcckppibjaaGreatDoor.TT

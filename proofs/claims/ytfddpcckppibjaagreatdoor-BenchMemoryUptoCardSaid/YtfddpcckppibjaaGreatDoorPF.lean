/- The card of BenchMemory holds: for every input that the row admits the law returns true and leaves its arguments; no further condition. -/
import Derived.Test.YtfddpcckppibjaaGreatDoorPG1
set_option linter.all false
namespace Go.Proofs.YtfddpcckppibjaaGreatDoor.TT
open Go Go.AM
set_option maxRecDepth 100000
theorem akg:Rows.BenchMemoryUptoSaid:=afn λc a H b _=>λF=>abJ c a H b F
theorem benchMemory_card:Rows.BenchMemoryUptoCardSaid:=ak4 akg
end Go.Proofs.YtfddpcckppibjaaGreatDoor.TT

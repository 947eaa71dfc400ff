/- The card of BenchEvals holds: for every input that the row admits the law returns true and leaves its arguments; no further condition. -/
import Derived.Test.YtfddpcckppibjaaGreatDoorPG1
set_option linter.all false
namespace Go.Proofs.YtfddpcckppibjaaGreatDoor.TT
open Go Go.AM
set_option maxRecDepth 100000
theorem aiL:Rows.BenchEvalsUptoSaid:=adr λc a H b _=>λF=>ZT c a H b F
theorem benchEvals_card:Rows.BenchEvalsUptoCardSaid:=aiA aiL
end Go.Proofs.YtfddpcckppibjaaGreatDoor.TT
